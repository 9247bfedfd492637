import PyProof.Rows.All
import PySem.Challenge.RW_lightbook_k03_characters_are_compared
import Wide.All
import OpenK.AllK
import Wide.FinOn
import HandS.ForMost
import HandS.Exc
import HandS.TryMany
import HandS.ExcInit
import HandS.ExcField
import HandS.Wide
import HandS.IsInst
import HandS.Deep
import HandS.EndBits
import HandS.CallSlots
import HandS.TupAny
import HandS.TupLe
import HandS.Strs
import HandS.More
import HandS.Flow
import HandS.SortInts
import KE.KExcSuper
import HandS.WordsExc
import HandS.Style
import KE.LtData
import KE.DataMinMax
import KE.SortData
set_option Elab.async false
set_option linter.all false
set_option maxRecDepth 100000
set_option maxHeartbeats 8000000
set_option autoImplicit false
/-! A value layer: pure values, and how the heap bears them. -/
namespace VL
open PySem PySem.Spec PyProof.Rows L2

/-- a pure value -/
inductive PV where
  | non | bl (b : Bool) | int (i : Int) | str (x : Str)
  | tup (xs : List PV) | lst (xs : List PV)
  /-- a list that is only read (the script) -/
  | src (xs : List PV)
  | dct (kvs : List (Key × PV))
  | obj (c : Nat) (fs : List (Str × PV))
  /-- a built-in class -/
  | ty (n : String)
  deriving Inhabited

/-- what comes of a computation: a value, an own exception (class, fields), or no word -/
inductive R (α : Type) where
  | ok (a : α) | exc (c : Nat) (fs : List (Str × PV)) | stuck
@[inline] def R.bind {α β : Type} (x : R α) (f : α → R β) : R β := match x with
  | .ok a => f a
  | .exc c fs => .exc c fs
  | .stuck => .stuck
theorem bind_ok {α β : Type} (a : α) (f : α → R β) : (R.ok a).bind f = f a := rfl
theorem bind_exc {α β : Type} (c fs) (f : α → R β) : (R.exc c fs).bind f = .exc c fs := rfl
theorem bind_stuck {α β : Type} (f : α → R β) : (R.stuck : R α).bind f = .stuck := rfl

/-- a part of a heap -/
def Sub (Hs H : Hp) : Prop := ∀ a o, Hs a = some o → H a = some o
theorem Sub.refl (H : Hp) : Sub H H := fun _ _ h => h
theorem Sub.trans {H H1 H2 : Hp} (a : Sub H H1) (b : Sub H1 H2) : Sub H H2 := fun c o h => b c o (a c o h)
theorem Sub.none {Hs H : Hp} (s : Sub Hs H) {a : Addr} (h : H a = .none) : Hs a = .none := by
  cases q : Hs a with
  | none => rfl
  | some o => rw [s a o q] at h; cases h
theorem Sub.upd {Hs H : Hp} {a : Addr} {o : HO} (s : Sub Hs H) (n : Hs a = .none) : Sub Hs (upd H a o) := fun b u h => by
  rw [upd_ne (ne_of_none h n)]; exact s b u h
theorem Sub.upd2 {Hs H : Hp} {a : Addr} {o : HO} (s : Sub Hs H) : Sub (L2.upd Hs a o) (L2.upd H a o) := fun b u h => by
  by_cases e : b = a
  · subst e; rw [upd_same] at h ⊢; exact h
  · rw [upd_ne e] at h ⊢; exact s b u h
theorem Sub.new {H : Hp} {a : Addr} {o : HO} (n : H a = .none) : Sub H (L2.upd H a o) := (Sub.refl H).upd n
theorem Sub.seqL {K : PySem.W.Frag} {H H' : Hp} {a : Addr} {xs : List V} (e : Sub H H') (h : SqL K H a xs) : SqL K H' a xs := by
  rcases h with (h | ⟨o, h⟩) | h
  · exact .inl (.inl (e _ _ h))
  · exact .inl (.inr ⟨o, e _ _ h⟩)
  · exact .inr h
theorem Sub.seqT {K : PySem.W.Frag} {H H' : Hp} {a : Addr} {xs : List V} (e : Sub H H') (h : SqT K H a xs) : SqT K H' a xs := by
  rcases h with (h | ⟨o, h⟩) | h
  · exact .inl (.inl (e _ _ h))
  · exact .inl (.inr ⟨o, e _ _ h⟩)
  · exact .inr h

section
variable (K : PySem.W.Frag) (cl : Nat → Addr) (H : Hp)
mutual
/-- the heap bears the value at x -/
inductive Rp : V → PV → Prop
  | non : Rp .non .non
  | bl (b : Bool) : Rp (.bl b) (.bl b)
  | int (i : Int) : Rp (.int i) (.int i)
  | str (x : Str) : Rp (.str x) (.str x)
  | tup {a : Addr} {vs : List V} {xs : List PV} : SqT K H a vs → RpA vs xs → Rp (.ref a) (.tup xs)
  | lst {a : Addr} {vs : List V} {xs : List PV} : H a = some (.lst vs) → RpA vs xs → Rp (.ref a) (.lst xs)
  | src {a : Addr} {vs : List V} {xs : List PV} : SqL K H a vs → RpA vs xs → Rp (.ref a) (.src xs)
  | dct {a : Addr} {vs : List (Key × V)} {xs : List (Key × PV)} : H a = some (.dK vs) → RpK vs xs → Rp (.ref a) (.dct xs)
  | ty (n : String) : Rp (.ty n) (.ty n)
  | obj {a dx : Addr} {c : Nat} {vs : List (Str × V)} {xs : List (Str × PV)} : H a = some (.ins (cl c) dx vs) → RpF vs xs → Rp (.ref a) (.obj c xs)
inductive RpA : List V → List PV → Prop
  | nil : RpA [] []
  | cons {v : V} {vs : List V} {x : PV} {xs : List PV} : Rp v x → RpA vs xs → RpA (v :: vs) (x :: xs)
inductive RpK : List (Key × V) → List (Key × PV) → Prop
  | nil : RpK [] []
  | cons {k : Key} {v : V} {vs : List (Key × V)} {x : PV} {xs : List (Key × PV)} : Rp v x → RpK vs xs → RpK ((k, v) :: vs) ((k, x) :: xs)
inductive RpF : List (Str × V) → List (Str × PV) → Prop
  | nil : RpF [] []
  | cons {k : Str} {v : V} {vs : List (Str × V)} {x : PV} {xs : List (Str × PV)} : Rp v x → RpF vs xs → RpF ((k, v) :: vs) ((k, x) :: xs)
end
end

section
variable {K : PySem.W.Frag} {cl : Nat → Addr} {H H' : Hp}
mutual
theorem Rp.mono (s : Sub H H') : ∀ {v : V} {x : PV}, Rp K cl H v x → Rp K cl H' v x
  | _, _, .non => .non
  | _, _, .bl b => .bl b
  | _, _, .int b => .int b
  | _, _, .str b => .str b
  | _, _, .tup h r => .tup (s.seqT h) (r.mono s)
  | _, _, .lst h r => .lst (s _ _ h) (r.mono s)
  | _, _, .src h r => .src (s.seqL h) (r.mono s)
  | _, _, .dct h r => .dct (s _ _ h) (r.mono s)
  | _, _, .obj h r => .obj (s _ _ h) (r.mono s)
  | _, _, .ty n => .ty n
theorem RpA.mono (s : Sub H H') : ∀ {v : List V} {x : List PV}, RpA K cl H v x → RpA K cl H' v x
  | _, _, .nil => .nil
  | _, _, .cons h r => .cons (h.mono s) (r.mono s)
theorem RpK.mono (s : Sub H H') : ∀ {v : List (Key × V)} {x : List (Key × PV)}, RpK K cl H v x → RpK K cl H' v x
  | _, _, .nil => .nil
  | _, _, .cons h r => .cons (h.mono s) (r.mono s)
theorem RpF.mono (s : Sub H H') : ∀ {v : List (Str × V)} {x : List (Str × PV)}, RpF K cl H v x → RpF K cl H' v x
  | _, _, .nil => .nil
  | _, _, .cons h r => .cons (h.mono s) (r.mono s)
end
theorem RpA.length : ∀ {v : List V} {x : List PV}, RpA K cl H v x → v.length = x.length
  | _, _, .nil => rfl
  | _, _, .cons _ r => congrArg (· + 1) r.length
theorem RpA.get : ∀ {vs : List V} {xs : List PV} {i : Nat} {x : PV}, RpA K cl H vs xs → xs[i]? = some x → ∃ v, vs[i]? = some v ∧ Rp K cl H v x
  | _, _, _, _, .nil, e => by simp at e
  | _, _, 0, _, .cons r _, e => by simp at e; subst e; exact ⟨_, rfl, r⟩
  | _, _, i + 1, x, .cons _ t, e => by
    obtain ⟨u, h1, h2⟩ := RpA.get (i := i) (x := x) t (by simpa using e)
    exact ⟨u, by simpa using h1, h2⟩
theorem RpA.get' : ∀ {vs : List V} {xs : List PV} {i : Nat} {v : V}, RpA K cl H vs xs → vs[i]? = some v → ∃ x, xs[i]? = some x ∧ Rp K cl H v x
  | _, _, _, _, .nil, e => by simp at e
  | _, _, 0, _, .cons r _, e => by simp at e; subst e; exact ⟨_, rfl, r⟩
  | _, _, i + 1, x, .cons _ t, e => by
    obtain ⟨u, h1, h2⟩ := RpA.get' (i := i) (v := x) t (by simpa using e)
    exact ⟨u, by simpa using h1, h2⟩
theorem RpA.append : ∀ {vs ws : List V} {xs ys : List PV}, RpA K cl H vs xs → RpA K cl H ws ys → RpA K cl H (vs ++ ws) (xs ++ ys)
  | _, _, _, _, .nil, s => s
  | _, _, _, _, .cons r t, s => .cons r (t.append s)
theorem RpA.take : ∀ {vs : List V} {xs : List PV} (n : Nat), RpA K cl H vs xs → RpA K cl H (vs.take n) (xs.take n)
  | _, _, 0, _ => .nil
  | _, _, _ + 1, .nil => .nil
  | _, _, n + 1, .cons r t => .cons r (t.take n)
theorem RpA.drop : ∀ {vs : List V} {xs : List PV} (n : Nat), RpA K cl H vs xs → RpA K cl H (vs.drop n) (xs.drop n)
  | _, _, 0, r => r
  | _, _, _ + 1, .nil => .nil
  | _, _, n + 1, .cons _ t => t.drop n
theorem RpA.set {v : V} {x : PV} (r : Rp K cl H v x) : ∀ {vs : List V} {xs : List PV} (i : Nat), RpA K cl H vs xs → RpA K cl H (vs.set i v) (xs.set i x)
  | _, _, _, .nil => .nil
  | _, _, 0, .cons _ t => .cons r t
  | _, _, i + 1, .cons q t => .cons q (RpA.set r i t)
theorem RpA.rep {vs : List V} {xs : List PV} (r : RpA K cl H vs xs) : ∀ n : Nat, RpA K cl H (List.replicate n vs).flatten (List.replicate n xs).flatten
  | 0 => .nil
  | n + 1 => by
    rw [List.replicate_succ, List.replicate_succ, List.flatten_cons, List.flatten_cons]
    exact r.append (r.rep n)
theorem RpF.lookup {f : Str} {x : PV} : ∀ {vs : List (Str × V)} {xs : List (Str × PV)}, RpF K cl H vs xs → xs.lookup f = some x → ∃ v, vs.lookup f = some v ∧ Rp K cl H v x
  | _, _, .nil, h => by cases h
  | _, _, .cons (k := k) (v := v) (x := y) r t, h => by
    by_cases e : f = k
    · subst e
      simp only [List.lookup, beq_self_eq_true] at h ⊢
      cases h
      exact ⟨v, rfl, r⟩
    · have q : (f == k) = false := by simpa using e
      simp only [List.lookup, q] at h ⊢
      exact t.lookup h
theorem RpF.lookup_none {f : Str} : ∀ {vs : List (Str × V)} {xs : List (Str × PV)}, RpF K cl H vs xs → xs.lookup f = none → vs.lookup f = none
  | _, _, .nil, h => rfl
  | _, _, .cons (k := k) (v := v) (x := y) r t, h => by
    by_cases e : f = k
    · subst e
      simp only [List.lookup, beq_self_eq_true] at h
      cases h
    · have q : (f == k) = false := by simpa using e
      simp only [List.lookup, q] at h ⊢
      exact t.lookup_none h
end

/-! ### data for == -/
mutual
def PV.data : PV → Option PyData
  | .non => some .none
  | .bl b => some (.bool b)
  | .int i => some (.int i)
  | .str x => some (.str x)
  | .tup xs => (PV.datas xs).map .tuple
  | .lst xs => (PV.datas xs).map .list
  | .src xs => (PV.datas xs).map .list
  | .dct _ => none
  | .obj _ _ => none
  | .ty _ => none
def PV.datas : List PV → Option (List PyData)
  | [] => some []
  | x :: xs => (PV.data x).bind fun d => (PV.datas xs).map (d :: ·)
end
section
variable {K : PySem.W.Frag} {cl : Nat → Addr} {H : Hp}
mutual
theorem Rp.dp : ∀ {v : V} {x : PV} {d : PyData}, Rp K cl H v x → x.data = some d → Dp K H v d
  | _, _, _, .non, e => by simp only [PV.data, Option.some.injEq] at e; subst e; exact .non
  | _, _, _, .bl b, e => by simp only [PV.data, Option.some.injEq] at e; subst e; exact .bl b
  | _, _, _, .int b, e => by simp only [PV.data, Option.some.injEq] at e; subst e; exact .int b
  | _, _, _, .str b, e => by simp only [PV.data, Option.some.injEq] at e; subst e; exact .str b
  | _, _, _, .tup h r, e => by
    simp only [PV.data, Option.map_eq_some_iff] at e
    obtain ⟨ds, e1, rfl⟩ := e
    exact .tup h (r.dp e1)
  | _, _, _, .lst h r, e => by
    simp only [PV.data, Option.map_eq_some_iff] at e
    obtain ⟨ds, e1, rfl⟩ := e
    exact .lst (.of h) (r.dp e1)
  | _, _, _, .src h r, e => by
    simp only [PV.data, Option.map_eq_some_iff] at e
    obtain ⟨ds, e1, rfl⟩ := e
    exact .lst h (r.dp e1)
  | _, _, _, .dct h r, e => by simp only [PV.data] at e; cases e
  | _, _, _, .obj h r, e => by simp only [PV.data] at e; cases e
  | _, _, _, .ty n, e => by simp only [PV.data] at e; cases e
theorem RpA.dp : ∀ {v : List V} {x : List PV} {d : List PyData}, RpA K cl H v x → PV.datas x = some d → DpAll K H v d
  | _, _, _, .nil, e => by simp only [PV.datas, Option.some.injEq] at e; subst e; exact .nil
  | _, _, _, .cons h r, e => by
    simp only [PV.datas, Option.bind_eq_some_iff, Option.map_eq_some_iff] at e
    obtain ⟨d, e1, ds, e2, rfl⟩ := e
    exact .cons (h.dp e1) (r.dp e2)
end
end
end VL
namespace VL
open PySem PySem.Spec PyProof.Rows L2
abbrev St := L2.St

/-- what an expression sees: the values by slot -/
abbrev Ev := List (Option PV)
abbrev Ex := Ev → R PV

/-- from (Hs, H) to (Hs', H'): all stands as it stood, and nothing that stood is frozen anew -/
structure Ext (Hs H Hs' H' : Hp) : Prop where
  fs : Sub Hs Hs'
  sub : Sub Hs' H'
  same : Sub H H'
  nw : ∀ a, H a ≠ none → Hs a = none → Hs' a = none
theorem Ext.refl {Hs H : Hp} (s : Sub Hs H) : Ext Hs H Hs H := ⟨Sub.refl _, s, Sub.refl _, fun _ _ h => h⟩
theorem Ext.trans {Hs H Hs1 H1 Hs2 H2 : Hp} (a : Ext Hs H Hs1 H1) (b : Ext Hs1 H1 Hs2 H2) : Ext Hs H Hs2 H2 :=
  ⟨a.fs.trans b.fs, b.sub, a.same.trans b.same, fun c h n => b.nw c (fun z => by
    cases q : H c with
    | none => exact h q
    | some o => rw [a.same c o q] at z; cases z) (a.nw c h n)⟩
theorem Ext.new {Hs H : Hp} {p : Addr} {o : HO} (s : Sub Hs H) (n : H p = none) : Ext Hs H (upd Hs p o) (upd H p o) :=
  ⟨Sub.new (s.none n), s.upd2, Sub.new n, fun a h z => by rw [upd_ne (fun e => h (by rw [e]; exact n))]; exact z⟩
/-- a new object that is not frozen -/
theorem Ext.newO {Hs H : Hp} {p : Addr} {o : HO} (s : Sub Hs H) (n : H p = none) : Ext Hs H Hs (upd H p o) := ⟨Sub.refl _, s.upd (s.none n), Sub.new n, fun _ _ z => z⟩

section
variable (K : PySem.W.Frag) (cl : Nat → Addr)
structure PEnv (Hs H : Hp) (σ : St) (ρ : Ev) : Prop where
  sub : Sub Hs H
  len : ρ.length = σ.length
  at_ : ∀ (i : Nat) (v : PV), ρ[i]? = some (some v) → ∃ x, σ[i]? = some (some x) ∧ Rp K cl Hs x v
variable {α β : Type} (rel : Hp → β → α → Prop) (W : WX)
/-- what is wanted of an outcome -/
def GP (Hs H : Hp) (σ : St) (r : R α) (Q : β → Hp → Prop) : Prop := match r with
  | .ok v => ∀ x Hs' H', Ext Hs H Hs' H' → rel Hs' x v → Q x H'
  | .exc c fs => ∀ d fvs Hs' H', Ext Hs H Hs' H' → Hs' d = some (.xd fvs) → RpF K cl Hs' fvs fs → W (.ref (cl c)) (some d) σ H'
  | .stuck => False
def gv (f : Ev → R α) : St → Hp → (β → Hp → Prop) → Prop := fun σ H Q => ∃ Hs ρ, PEnv K cl Hs H σ ρ ∧ GP K cl rel W Hs H σ (f ρ) Q
abbrev tv (f : Ex) : TE := gv K cl (Rp K cl) W f
abbrev ta (f : Ev → R (List PV)) : TA := gv K cl (RpA K cl) W f
abbrev tt (f : Ev → R Bool) : TT := gv K cl (fun _ b c => b = c) W f
end

section
variable {K : PySem.W.Frag} {cl : Nat → Addr} {W : WX} {Hs Hs1 H H1 : Hp} {σ : St} {ρ : Ev}
theorem PEnv.up (E : PEnv K cl Hs H σ ρ) (s : Ext Hs H Hs1 H1) : PEnv K cl Hs1 H1 σ ρ :=
  ⟨s.sub, E.len, fun i v h => let ⟨x, e, r⟩ := E.at_ i v h; ⟨x, e, r.mono s.fs⟩⟩
section
variable {α β : Type} {rel : Hp → β → α → Prop} {r : R α} {Q Q' : β → Hp → Prop}
theorem GP.up (h : GP K cl rel W Hs H σ r Q) (s : Ext Hs H Hs1 H1) : GP K cl rel W Hs1 H1 σ r Q := by
  cases r with
  | ok v => exact fun x Hs' H' t => h x Hs' H' (s.trans t)
  | exc c fs => exact fun d fvs Hs' H' t => h d fvs Hs' H' (s.trans t)
  | stuck => exact h
theorem gv_bind {α' β' : Type} {rel' : Hp → β' → α' → Prop} {f : Ev → R α} {k : α → R α'} {Q' : β' → Hp → Prop} (E : PEnv K cl Hs H σ ρ) (h : GP K cl rel' W Hs H σ ((f ρ).bind k) Q')
    (hk : ∀ v x Hs1 H1, f ρ = .ok v → Ext Hs H Hs1 H1 → rel Hs1 x v → GP K cl rel' W Hs1 H1 σ (k v) Q' → Q x H1) : gv K cl rel W f σ H Q := by
  refine ⟨Hs, ρ, E, ?_⟩
  cases e : f ρ with
  | ok v =>
    rw [e] at h
    exact fun x Hs1 H1 s1 rx => hk v x Hs1 H1 e s1 rx (GP.up h s1)
  | exc c fs => rw [e] at h; exact h
  | stuck => rw [e] at h; exact h
theorem GP.here {v : α} {x : β} (h : GP K cl rel W Hs H σ (.ok v) Q) (s : Sub Hs H) (r : rel Hs x v) : Q x H := h x Hs H (Ext.refl s) r
end
/-- an operation's outcome -/
def opt {α : Type} : Option α → R α
  | some a => .ok a
  | none => .stuck
theorem opt_some {α : Type} (a : α) : opt (some a) = .ok a := rfl
theorem GP.opt {α β : Type} {rel : Hp → β → α → Prop} {o : Option α} {Q : β → Hp → Prop} (h : GP K cl rel W Hs H σ (opt o) Q) : ∃ w, o = some w ∧ GP K cl rel W Hs H σ (.ok w) Q := by
  cases o with
  | some w => exact ⟨w, rfl, h⟩
  | none => exact h.elim

/-! new objects -/
theorem new_lst {p : Addr} {vs : List V} {xs : List PV} {Q : VK} (h : GP K cl (Rp K cl) W Hs H σ (.ok (.lst xs)) Q) (s : Sub Hs H) (n : H p = none) (r : RpA K cl Hs vs xs) : Q (.ref p) (upd H p (.lst vs)) :=
  have n' : Hs p = none := s.none n
  h _ (upd Hs p (.lst vs)) _ (Ext.new s n) (.lst upd_same (r.mono (Sub.new n')))
theorem new_tup {p : Addr} {vs : List V} {xs : List PV} {Q : VK} (h : GP K cl (Rp K cl) W Hs H σ (.ok (.tup xs)) Q) (s : Sub Hs H) (n : H p = none) (r : RpA K cl Hs vs xs) : Q (.ref p) (upd H p (.tup vs)) :=
  have n' : Hs p = none := s.none n
  h _ (upd Hs p (.tup vs)) _ (Ext.new s n) (.tup (.of upd_same) (r.mono (Sub.new n')))
end

theorem peWeak {X : Cx} {e : Expr} {t t' : TE} (h : PE X e t) (w : ∀ σ H Q, t' σ H Q → t σ H Q) : PE X e t' := ⟨fun pins s σ H Q I q => h.run pins s σ H Q I (w σ H Q q)⟩
theorem ptWeak {X : Cx} {e : Expr} {t t' : TT} (h : PT X e t) (w : ∀ σ H Q, t' σ H Q → t σ H Q) : PT X e t' := ⟨fun pins s σ H Q I q => h.run pins s σ H Q I (w σ H Q q)⟩
theorem paWeak {X : Cx} {e : List Expr} {t t' : TA} (h : PA X e t) (w : ∀ σ H Q, t' σ H Q → t σ H Q) : PA X e t' := ⟨fun ps pins s σ H Q I q => h.run ps pins s σ H Q I (w σ H Q q)⟩
theorem psWeak {X : Cx} {e : Stmt} {t t' : TS} (h : PS X e t) (w : ∀ D σ H, t' D σ H → t D σ H) : PS X e t' := ⟨fun pins s σ H Q I q => h.run pins s σ H Q I (w Q σ H q)⟩
theorem pssWeak {X : Cx} {e : List Stmt} {t t' : TS} (h : PSs X e t) (w : ∀ D σ H, t' D σ H → t D σ H) : PSs X e t' := ⟨fun pins s σ H Q I q => h.run pins s σ H Q I (w Q σ H q)⟩

/-! ### the expressions -/
def eVar : Nat → Ex
  | 0, some v :: _ => .ok v
  | n + 1, _ :: r => eVar n r
  | _, _ => .stuck
theorem eVar_ok : ∀ {i : Nat} {ρ : Ev} {v : PV}, eVar i ρ = .ok v → ρ[i]? = some (some v)
  | 0, some v :: _, _, h => by cases h; rfl
  | 0, none :: _, _, h => by cases h
  | 0, [], _, h => by cases h
  | n + 1, [], _, h => by cases h
  | n + 1, x :: r, v, h => by rw [List.getElem?_cons_succ]; exact eVar_ok (i := n) h
theorem eVar_noexc : ∀ {i : Nat} {ρ : Ev} {c fs}, eVar i ρ ≠ .exc c fs
  | 0, some v :: _, _, _, h => by cases h
  | 0, none :: _, _, _, h => by cases h
  | 0, [], _, _, h => by cases h
  | n + 1, [], _, _, h => by cases h
  | n + 1, x :: r, _, _, h => eVar_noexc (i := n) (ρ := r) h
def eC (v : PV) : Ex := fun _ => .ok v
def e1 (g : PV → Option PV) (a : Ex) : Ex := fun ρ => (a ρ).bind fun x => opt (g x)
def e2 (g : PV → PV → Option PV) (a b : Ex) : Ex := fun ρ => (a ρ).bind fun x => (b ρ).bind fun y => opt (g x y)
def eIf (c : Ev → R Bool) (a b : Ex) : Ex := fun ρ => (c ρ).bind fun t => if t = true then a ρ else b ρ
def evs : List Ex → Ev → R (List PV)
  | [], _ => .ok []
  | a :: r, ρ => (a ρ).bind fun x => (evs r ρ).bind fun xs => .ok (x :: xs)
def eArgs (g : List PV → R PV) (as : List Ex) : Ex := fun ρ => (evs as ρ).bind g

section
variable {X : Cx} {cl : Nat → Addr} {W : WX} {pos : Pos} {a b : Expr} {f f' : Ex}
theorem ve_var (i : Nat) {x : Str} (hN : X.N[i]? = some x := by rfl) (hv : Vis X.env.scope x := by first | exact Or.inl rfl | exact Or.inr (Or.inl rfl) | exact Or.inr (Or.inr rfl)) (hd : (x == ("__debug__" : Str)) = false := by decide)
    (hcd : (x == ("__classdict__" : Str)) = false := by decide) : PE X (.Name x pos) (tv X.K cl W (eVar i)) :=
  peWeak (pe_var hN hv hd hcd) fun σ H Q ⟨Hs, ρ, E, h⟩ => by
    cases e : eVar i ρ with
    | ok v =>
      rw [e] at h
      obtain ⟨x, e1, r⟩ := E.at_ i v (eVar_ok e)
      exact ⟨x, e1, h.here E.sub r⟩
    | exc c fs => exact absurd e eVar_noexc
    | stuck => rw [e] at h; exact h.elim
theorem ve_c {v : V} {u : PV} {e : Expr} (h : PE X e (tC v)) (r : ∀ H, Rp X.K cl H v u) : PE X e (tv X.K cl W (eC u)) :=
  peWeak h fun σ H Q ⟨Hs, ρ, E, h⟩ => GP.here h E.sub (r _)
theorem ve_int {i j} : PE X (.Constant (.int i) j pos) (tv X.K cl W (eC (.int i))) := ve_c pe_int fun _ => .int i
theorem ve_bl {i j} : PE X (.Constant (.bool i) j pos) (tv X.K cl W (eC (.bl i))) := ve_c pe_bl fun _ => .bl i
theorem ve_non {j} : PE X (.Constant .none j pos) (tv X.K cl W (eC .non)) := ve_c pe_non fun _ => .non
theorem ve_str {x j} : PE X (.Constant (.str x) j pos) (tv X.K cl W (eC (.str x))) := ve_c pe_str fun _ => .str x
/-- a constant of the module -/
def GlobV (K : PySem.W.Frag) (cl : Nat → Addr) (mg : Str → Option Value) (x : Str) (u : PV) : Prop := ∃ (v : V) (w : Value), mg x = some w ∧ RelV v w ∧ ∀ H, Rp K cl H v u
theorem ve_glob {x : Str} {u : PV} (G : GlobV X.K cl X.mg x u) (hg : Gl X x := by rfl) (hd : (x == ("__debug__" : Str)) = false := by decide) : PE X (.Name x pos) (tv X.K cl W (eC u)) := by
  obtain ⟨v, w, h1, h2, h3⟩ := G
  exact ve_c (pe_glob hg h1 h2 hd) h3

/-- an operation of two values, by its library rule -/
def OpV (K : PySem.W.Frag) (cl : Nat → Addr) (r : R2) (g : PV → PV → Option PV) : Prop := ∀ (W : WX) (σ : St) (Hs H : Hp) (x y : V) (u v w : PV) (Q : VK), Sub Hs H → Rp K cl Hs x u → Rp K cl Hs y v → g u v = some w →
  GP K cl (Rp K cl) W Hs H σ (.ok w) Q → r x y H Q
theorem op_use {r : R2} {g : PV → PV → Option PV} (hg : OpV X.K cl r g) {σ : St} {H : Hp} {Q : VK} (h : tv X.K cl W (e2 g f f') σ H Q) : tOp r (tv X.K cl W f) (tv X.K cl W f') σ H Q := by
  obtain ⟨Hs, ρ, E, h⟩ := h
  refine gv_bind E h fun v x Hs1 H1 _ s1 rx h1 => ?_
  refine gv_bind (E.up s1) h1 fun u y Hs2 H2 _ t1 ry h2 => ?_
  obtain ⟨w, e, q⟩ := h2.opt
  exact hg W σ Hs2 H2 x y v u w Q t1.sub (rx.mono t1.fs) ry e q
theorem ve_bin {op : Operator} {r : R2} {g : PV → PV → Option PV} (ho : OpR X (binaryOp op) r) (hg : OpV X.K cl r g) (ha : PE X a (tv X.K cl W f)) (hb : PE X b (tv X.K cl W f')) : PE X (.BinOp a op b pos) (tv X.K cl W (e2 g f f')) :=
  peWeak (pe_op ho ha hb) fun _ _ _ h => op_use hg h
theorem ve_cmp {op : CmpOp} {r : R2} {g : PV → PV → Option PV} (ho : OpR X (compareOp op) r) (hg : OpV X.K cl r g) (ha : PE X a (tv X.K cl W f)) (hb : PE X b (tv X.K cl W f')) (hm : behindInMarks op b = false := by first | exact nomark _ | rfl) : PE X (.Compare a [op] [b] pos) (tv X.K cl W (e2 g f f')) :=
  peWeak (pe_cmpR ho ha hb hm) fun _ _ _ h => op_use hg h
/-- two rules for one operation -/
theorem OpV.or {r r' : R2} {g g' : PV → PV → Option PV} (h : OpV X.K cl r g) (h' : OpV X.K cl r' g') : OpV X.K cl (fun x y H Q => r x y H Q ∨ r' x y H Q) (fun u v => (g u v).or (g' u v)) := by
  intro W σ Hs H x y u v w Q s rx ry e q
  replace e : (g u v).or (g' u v) = some w := e
  cases e1 : g u v with
  | some z => rw [e1] at e; cases e; exact .inl (h W σ Hs H x y u v _ Q s rx ry e1 q)
  | none => rw [e1] at e; exact .inr (h' W σ Hs H x y u v _ Q s rx ry e q)

/-! tests -/
def eTst (a : Ex) : Ev → R Bool := fun ρ => (a ρ).bind fun x => match x with | .bl b => .ok b | _ => .stuck
theorem tst_use {σ : St} {H : Hp} {Q : Bool → Hp → Prop} (h : tt X.K cl W (eTst f) σ H Q) : tB (tv X.K cl W f) σ H Q := by
  obtain ⟨Hs, ρ, E, h⟩ := h
  refine gv_bind E h fun v x Hs1 H1 _ s1 rx h1 => ?_
  cases rx with
  | bl b => exact ⟨b, rfl, GP.here (x := b) h1 s1.sub rfl⟩
  | _ => exact h1.elim
theorem vt_cmp {op : CmpOp} {r : R2} {g : PV → PV → Option PV} (ho : OpR X (compareOp op) r) (hg : OpV X.K cl r g) (ha : PE X a (tv X.K cl W f)) (hb : PE X b (tv X.K cl W f')) (hm : behindInMarks op b = false := by first | exact nomark _ | rfl) : PT X (.Compare a [op] [b] pos) (tt X.K cl W (eTst (e2 g f f'))) :=
  ptWeak (pt_cmpR ho ha hb hm) fun σ H Q h => by
    have q := tst_use h
    obtain ⟨Hs, ρ, E, h⟩ := h
    show tOp r (tv X.K cl W f) (tv X.K cl W f') σ H _
    refine op_use (g := g) hg ⟨Hs, ρ, E, ?_⟩
    unfold eTst at h
    cases e : e2 g f f' ρ with
    | ok w =>
      rw [e] at h
      intro x Hs' H' s1 rx
      cases rx with
      | bl b => exact ⟨b, rfl, h b Hs' H' s1 rfl⟩
      | _ => exact h.elim
    | exc c fs => rw [e] at h; exact h
    | stuck => rw [e] at h; exact h
theorem vt_val {e : Expr} (h : PE X e (tv X.K cl W f)) (he : ∀ whole, isTrue e X.env whole = (do let v ← whole; standAt e.pos; holding [v] (truthy v)) := by intro _; rfl) : PT X e (tt X.K cl W (eTst f)) :=
  ptWeak (pt_val h he) fun _ _ _ h => tst_use h
/-- truth of a value -/
def truV : PV → Option Bool
  | .non => some false
  | .bl b => some b
  | .int i => some (i != 0)
  | .str x => if x.length ≤ sizeLine then some ((x.length : Int) != 0) else none
  | .tup xs => some (!xs.isEmpty)
  | .lst xs => some (!xs.isEmpty)
  | .src xs => some (!xs.isEmpty)
  | .dct kvs => some (!kvs.isEmpty)
  | .obj _ _ => none
  | .ty _ => none
theorem RpA.empty {K : PySem.W.Frag} {cl : Nat → Addr} {H : Hp} {vs : List V} {xs : List PV} (r : RpA K cl H vs xs) : xs.isEmpty = vs.isEmpty := by cases r <;> rfl
theorem RpK.empty {K : PySem.W.Frag} {cl : Nat → Addr} {H : Hp} {vs : List (Key × V)} {xs : List (Key × PV)} (r : RpK K cl H vs xs) : xs.isEmpty = vs.isEmpty := by cases r <;> rfl
def eTru (a : Ex) : Ev → R Bool := fun ρ => (a ρ).bind fun x => opt (truV x)
theorem truV_ok {K : PySem.W.Frag} {Hs H : Hp} {x : V} {u : PV} {b : Bool} (s : Sub Hs H) (r : Rp K cl Hs x u) (e : truV u = some b) : TruV K x H b := by
  cases r with
  | non => cases e; rfl
  | bl b => cases e; rfl
  | int i => cases e; rfl
  | str z =>
    replace e : (if z.length ≤ sizeLine then some ((z.length : Int) != 0) else none) = some b := e
    split at e
    · cases e; exact ⟨by assumption, rfl⟩
    · cases e
  | tup h ra => cases e; exact .inr (.inl ⟨_, s.seqT h, by rw [ra.empty]⟩)
  | lst h ra => cases e; exact .inl ⟨_, .of (s _ _ h), by rw [ra.empty]⟩
  | src h ra => cases e; exact .inl ⟨_, s.seqL h, by rw [ra.empty]⟩
  | dct h ra => cases e; exact .inr (.inr ⟨_, s _ _ h, by rw [ra.empty]⟩)
  | obj h ra => cases e
  | ty n => cases e
theorem vt_tru {e : Expr} (h : PE X e (tv X.K cl W f)) (he : ∀ whole, isTrue e X.env whole = (do let v ← whole; standAt e.pos; holding [v] (truthy v)) := by intro _; rfl) : PT X e (tt X.K cl W (eTru f)) :=
  ptWeak (pt_truth h he) fun σ H Q ⟨Hs, ρ, E, h⟩ => by
    refine gv_bind E h fun v x Hs1 H1 _ s1 rx h1 => ?_
    obtain ⟨b, e, q⟩ := h1.opt
    exact ⟨b, truV_ok s1.sub rx e, GP.here (x := b) q s1.sub rfl⟩
variable {c c' : Ev → R Bool} {rest : List Expr}
def cAnd (a b : Ev → R Bool) : Ev → R Bool := fun ρ => (a ρ).bind fun t => if t = true then b ρ else .ok false
def cOr (a b : Ev → R Bool) : Ev → R Bool := fun ρ => (a ρ).bind fun t => if t = true then .ok true else b ρ
def cNot (a : Ev → R Bool) : Ev → R Bool := fun ρ => (a ρ).bind fun t => .ok (!t)
theorem pwWeak {e : Expr} {t t' : TT} (h : PW X e t) (w : ∀ σ H Q, t' σ H Q → t σ H Q) : PW X e t' := ⟨fun wh pins s σ H Q I q => h.run wh pins s σ H Q I (w σ H Q q)⟩
theorem vw_and1 (ha : PT X a (tt X.K cl W c)) : PW X (.BoolOp .And [a] pos) (tt X.K cl W c) := pw_and1 ha
theorem vw_or1 (ha : PT X a (tt X.K cl W c)) : PW X (.BoolOp .Or [a] pos) (tt X.K cl W c) := pw_or1 ha
theorem vw_and (ha : PT X a (tt X.K cl W c)) (hb : PW X (.BoolOp .And (b :: rest) pos) (tt X.K cl W c')) : PW X (.BoolOp .And (a :: b :: rest) pos) (tt X.K cl W (cAnd c c')) :=
  pwWeak (pw_and ha hb) fun σ H Q ⟨Hs, ρ, E, h⟩ => by
    refine gv_bind E h fun v x Hs1 H1 _ s1 rx h1 => ?_
    subst rx
    cases x with
    | true => exact ⟨Hs1, ρ, E.up s1, h1⟩
    | false => exact GP.here (x := false) h1 s1.sub rfl
theorem vw_or (ha : PT X a (tt X.K cl W c)) (hb : PW X (.BoolOp .Or (b :: rest) pos) (tt X.K cl W c')) : PW X (.BoolOp .Or (a :: b :: rest) pos) (tt X.K cl W (cOr c c')) :=
  pwWeak (pw_or ha hb) fun σ H Q ⟨Hs, ρ, E, h⟩ => by
    refine gv_bind E h fun v x Hs1 H1 _ s1 rx h1 => ?_
    subst rx
    cases x with
    | true => exact GP.here (x := true) h1 s1.sub rfl
    | false => exact ⟨Hs1, ρ, E.up s1, h1⟩
theorem vt_not (ha : PT X a (tt X.K cl W c)) : PT X (.UnaryOp .Not a pos) (tt X.K cl W (cNot c)) :=
  ptWeak (pt_not ha) fun σ H Q ⟨Hs, ρ, E, h⟩ => by
    refine gv_bind E h fun v x Hs1 H1 _ s1 rx h1 => ?_
    subst rx
    exact GP.here (x := !x) h1 s1.sub rfl
/-! .. as values -/
def eAnd (a b : Ex) : Ex := fun ρ => (a ρ).bind fun x => match x with | .bl t => if t = true then b ρ else .ok (.bl false) | _ => .stuck
def eOr (a b : Ex) : Ex := fun ρ => (a ρ).bind fun x => match x with | .bl t => if t = true then .ok (.bl true) else b ρ | _ => .stuck
def eNot (a : Ex) : Ex := fun ρ => (a ρ).bind fun x => match x with | .bl t => .ok (.bl (!t)) | _ => .stuck
theorem ve_one {op} (h : PE X a (tv X.K cl W f)) : PE X (.BoolOp op [a] pos) (tv X.K cl W f) := pe_one h
theorem ve_and (ha : PE X a (tv X.K cl W f)) (hb : PE X (.BoolOp .And (b :: rest) pos) (tv X.K cl W f')) : PE X (.BoolOp .And (a :: b :: rest) pos) (tv X.K cl W (eAnd f f')) :=
  peWeak (pe_and ha hb) fun σ H Q ⟨Hs, ρ, E, h⟩ => by
    refine gv_bind E h fun v x Hs1 H1 _ s1 rx h1 => ?_
    cases rx with
    | bl t =>
      refine ⟨t, rfl, ?_⟩
      cases t with
      | true => exact ⟨Hs1, ρ, E.up s1, h1⟩
      | false => exact GP.here h1 s1.sub (.bl false)
    | _ => exact h1.elim
theorem ve_or (ha : PE X a (tv X.K cl W f)) (hb : PE X (.BoolOp .Or (b :: rest) pos) (tv X.K cl W f')) : PE X (.BoolOp .Or (a :: b :: rest) pos) (tv X.K cl W (eOr f f')) :=
  peWeak (pe_or ha hb) fun σ H Q ⟨Hs, ρ, E, h⟩ => by
    refine gv_bind E h fun v x Hs1 H1 _ s1 rx h1 => ?_
    cases rx with
    | bl t =>
      refine ⟨t, rfl, ?_⟩
      cases t with
      | true => exact GP.here h1 s1.sub (.bl true)
      | false => exact ⟨Hs1, ρ, E.up s1, h1⟩
    | _ => exact h1.elim
theorem ve_not (ha : PE X a (tv X.K cl W f)) : PE X (.UnaryOp .Not a pos) (tv X.K cl W (eNot f)) :=
  peWeak (pe_not ha) fun σ H Q ⟨Hs, ρ, E, h⟩ => by
    refine gv_bind E h fun v x Hs1 H1 _ s1 rx h1 => ?_
    cases rx with
    | bl t => exact ⟨t, rfl, GP.here h1 s1.sub (.bl (!t))⟩
    | _ => exact h1.elim
theorem ve_if {t : Expr} (hc : PT X t (tt X.K cl W c)) (ha : PE X a (tv X.K cl W f)) (hb : PE X b (tv X.K cl W f')) : PE X (.IfExp t a b pos) (tv X.K cl W (eIf c f f')) :=
  peWeak (pe_ifExp hc ha hb) fun σ H Q ⟨Hs, ρ, E, h⟩ => by
    refine gv_bind E h fun v x Hs1 H1 _ s1 rx h1 => ?_
    subst rx
    cases x with
    | true => exact ⟨Hs1, ρ, E.up s1, h1⟩
    | false => exact ⟨Hs1, ρ, E.up s1, h1⟩
/-! chains -/
def chainK (g' : PV → PV → Option PV) (c : Ex) (ρ : Ev) (y : PV) : PV → R PV
  | .bl k => if k = true then (c ρ).bind fun w => opt (g' y w) else .ok (.bl false)
  | _ => .stuck
def eChain (g g' : PV → PV → Option PV) (a b c : Ex) : Ex := fun ρ => (a ρ).bind fun x => (b ρ).bind fun y => (opt (g x y)).bind (chainK g' c ρ y)
theorem chain_use {f'' : Ex} {r r' : R2} {g g' : PV → PV → Option PV} (hg : OpV X.K cl r g) (hg' : OpV X.K cl r' g') {σ : St} {H : Hp} {Q : VK} (h : tv X.K cl W (eChain g g' f f' f'') σ H Q) : tChain r r' (tv X.K cl W f) (tv X.K cl W f') (tv X.K cl W f'') σ H Q := by
  obtain ⟨Hs, ρ, E, h⟩ := h
  refine gv_bind E h fun v x Hs1 H1 _ s1 rx h1 => ?_
  refine gv_bind (E.up s1) h1 fun u y Hs2 H2 _ t1 ry h2 => ?_
  have E2 := (E.up s1).up t1
  cases e : g v u with
  | none => rw [e] at h2; exact h2.elim
  | some z =>
    rw [e] at h2
    have h3 : GP X.K cl (Rp X.K cl) W Hs2 H2 σ (chainK g' f'' ρ u z) Q := h2
    refine hg W σ Hs2 H2 x y v u z _ t1.sub (rx.mono t1.fs) ry e fun zz Hs3 H3 w1 rz => ?_
    have h4 := GP.up h3 w1
    cases rz with
    | bl k =>
      refine ⟨k, rfl, ?_⟩
      cases k with
      | true =>
        rw [if_pos rfl]
        refine gv_bind (E2.up w1) h4 fun u4 y4 Hs4 H4 _ q1 r4 h5 => ?_
        obtain ⟨w, e5, q⟩ := h5.opt
        exact hg' W σ Hs4 H4 y y4 u u4 w Q q1.sub ((ry.mono w1.fs).mono q1.fs) r4 e5 q
      | false => exact GP.here h4 w1.sub (.bl false)
    | _ => exact h4.elim
theorem ve_chain {f'' : Ex} {d : Expr} {op op' : CmpOp} {r r' : R2} {g g' : PV → PV → Option PV} (ho : OpR X (compareOp op) r) (ho' : OpR X (compareOp op') r') (hg : OpV X.K cl r g) (hg' : OpV X.K cl r' g') (ha : PE X a (tv X.K cl W f)) (hb : PE X b (tv X.K cl W f')) (hd : PE X d (tv X.K cl W f'')) (hm : lastMarks [op, op'] [b, d] = false := by rfl) : PE X (.Compare a [op, op'] [b, d] pos) (tv X.K cl W (eChain g g' f f' f'')) :=
  peWeak (pe_chain ho ho' ha hb hd hm) fun _ _ _ h => chain_use hg hg' h
theorem vt_chain {f'' : Ex} {d : Expr} {op op' : CmpOp} {r r' : R2} {g g' : PV → PV → Option PV} (ho : OpR X (compareOp op) r) (ho' : OpR X (compareOp op') r') (hg : OpV X.K cl r g) (hg' : OpV X.K cl r' g') (ha : PE X a (tv X.K cl W f)) (hb : PE X b (tv X.K cl W f')) (hd : PE X d (tv X.K cl W f'')) (hm : lastMarks [op, op'] [b, d] = false := by rfl) : PT X (.Compare a [op, op'] [b, d] pos) (tt X.K cl W (eTst (eChain g g' f f' f''))) :=
  ptWeak (pt_chain ho ho' ha hb hd hm) fun σ H Q ⟨Hs, ρ, E, h⟩ => by
    show tChain r r' (tv X.K cl W f) (tv X.K cl W f') (tv X.K cl W f'') σ H _
    refine chain_use hg hg' ⟨Hs, ρ, E, ?_⟩
    unfold eTst at h
    cases e : eChain g g' f f' f'' ρ with
    | ok w =>
      rw [e] at h
      intro x Hs' H' s1 rx
      cases rx with
      | bl b => exact ⟨b, rfl, h b Hs' H' s1 rfl⟩
      | _ => exact h.elim
    | exc c fs => rw [e] at h; exact h
    | stuck => rw [e] at h; exact h
/-! argument lists, displays -/
theorem va_nil : PA X [] (ta X.K cl W (evs [])) := paWeak pa_nil fun σ H Q ⟨Hs, ρ, E, h⟩ => GP.here h E.sub .nil
theorem va_cons {e : Expr} {es : List Expr} {fs : List Ex} (ha : PE X e (tv X.K cl W f)) (hr : PA X es (ta X.K cl W (evs fs))) (hs : starEach (e :: es) X.env = (false, eval e X.env) :: starEach es X.env := by rfl) : PA X (e :: es) (ta X.K cl W (evs (f :: fs))) :=
  paWeak (pa_cons ha hr hs) fun σ H Q ⟨Hs, ρ, E, h⟩ => by
    refine gv_bind E h fun v x Hs1 H1 _ s1 rx h1 => ?_
    refine gv_bind (E.up s1) h1 fun u y Hs2 H2 _ t1 ry h2 => ?_
    exact GP.here h2 t1.sub (.cons (rx.mono t1.fs) ry)
def gTupV : List PV → R PV := fun xs => if xs.length ≤ sizeLine then .ok (.tup xs) else .stuck
def gLstV : List PV → R PV := fun xs => if xs.length ≤ sizeLine then .ok (.lst xs) else .stuck
theorem ve_tup {es : List Expr} {x1} {fs : List Ex} (h : PA X es (ta X.K cl W (evs fs))) : PE X (.Tuple es x1 pos) (tv X.K cl W (eArgs gTupV fs)) :=
  peWeak (pe_tup h) fun σ H Q ⟨Hs, ρ, E, h⟩ => by
    refine gv_bind E h fun v x Hs1 H1 _ s1 rx h1 => ?_
    unfold gTupV at h1
    split at h1
    · exact ⟨by rw [rx.length]; assumption, fun p n => new_tup h1 s1.sub n rx⟩
    · exact h1.elim
theorem ve_lst {es : List Expr} {fs : List Ex} (h : PA X es (ta X.K cl W (evs fs))) : PE X (.List es pos) (tv X.K cl W (eArgs gLstV fs)) :=
  peWeak (pe_lst h) fun σ H Q ⟨Hs, ρ, E, h⟩ => by
    refine gv_bind E h fun v x Hs1 H1 _ s1 rx h1 => ?_
    unfold gLstV at h1
    split at h1
    · exact ⟨by rw [rx.length]; assumption, fun p n => new_lst h1 s1.sub n rx⟩
    · exact h1.elim
/-! built-in functions by values -/
def CallV (K : PySem.W.Frag) (cl : Nat → Addr) (r : List V → Hp → VK → Prop) (g : List PV → Option PV) : Prop := ∀ (W : WX) (σ : St) (Hs H : Hp) (xs : List V) (us : List PV) (w : PV) (Q : VK), Sub Hs H → RpA K cl Hs xs us → g us = some w →
  GP K cl (Rp K cl) W Hs H σ (.ok w) Q → r xs H Q
theorem CallV.or {r r' : List V → Hp → VK → Prop} {g g' : List PV → Option PV} (h : CallV X.K cl r g) (h' : CallV X.K cl r' g') : CallV X.K cl (fun x H Q => r x H Q ∨ r' x H Q) (fun u => (g u).or (g' u)) := by
  intro W σ Hs H x u w Q s rx e q
  replace e : (g u).or (g' u) = some w := e
  cases e1 : g u with
  | some z => rw [e1] at e; cases e; exact .inl (h W σ Hs H x u _ Q s rx e1 q)
  | none => rw [e1] at e; exact .inr (h' W σ Hs H x u _ Q s rx e q)
def eCB (g : List PV → Option PV) (as : List Ex) : Ex := eArgs (fun xs => opt (g xs)) as
theorem cb_use {r : List V → Hp → VK → Prop} {g : List PV → Option PV} {fs : List Ex} (hg : CallV X.K cl r g) {σ : St} {H : Hp} {Q : VK} (h : tv X.K cl W (eCB g fs) σ H Q) : tCB r (ta X.K cl W (evs fs)) σ H Q := by
  obtain ⟨Hs, ρ, E, h⟩ := h
  refine gv_bind E h fun v x Hs1 H1 _ s1 rx h1 => ?_
  obtain ⟨w, e, q⟩ := h1.opt
  exact hg W σ Hs1 H1 x v w Q s1.sub rx e q
theorem ve_callB {x : Str} {p : Pos} {id : String} {e : Expr} {es : List Expr} {fs : List Ex} {r : List V → Hp → VK → Prop} {g : List PV → Option PV} (hc : CallR X (.builtin id) r) (hg : CallV X.K cl r g) (hm : X.mg x = none) (hv : bootBuiltins x = some (.builtin id)) (ha : PA X (e :: es) (ta X.K cl W (evs fs)))
    (hgl : Gl X x := by rfl) (hn : x ≠ "__name__" := by decide) (hd : (x == ("__debug__" : Str)) = false := by decide) (he : starEach (e :: es) X.env = (false, eval e X.env) :: starEach es X.env := by rfl) (hpl : (backTo pos (starEach es X.env)).any (·.1) = false := by rfl) : PE X (.Call (.Name x p) (e :: es) [] pos) (tv X.K cl W (eCB g fs)) :=
  peWeak (pe_callB hc hgl hm hv ha (hn := hn) (hdb := hd) (he := he) (hpl := hpl)) fun _ _ _ h => cb_use hg h
theorem ve_callTy {x : Str} {p : Pos} {id : String} {e : Expr} {es : List Expr} {fs : List Ex} {r : List V → Hp → VK → Prop} {g : List PV → Option PV} (hc : CallR X (.type id) r) (hg : CallV X.K cl r g) (hm : X.mg x = none) (hv : bootBuiltins x = some (.type id)) (ha : PA X (e :: es) (ta X.K cl W (evs fs)))
    (hgl : Gl X x := by rfl) (hn : x ≠ "__name__" := by decide) (hd : (x == ("__debug__" : Str)) = false := by decide) (he : starEach (e :: es) X.env = (false, eval e X.env) :: starEach es X.env := by rfl) (hpl : (backTo pos (starEach es X.env)).any (·.1) = false := by rfl) : PE X (.Call (.Name x p) (e :: es) [] pos) (tv X.K cl W (eCB g fs)) :=
  peWeak (pe_callTy hc hgl hm hv ha (hn := hn) (hdb := hd) (he := he) (hpl := hpl)) fun _ _ _ h => cb_use hg h
/-! subscripts, slices -/
def ixP : PV → PV → Option PV
  | .lst xs, .int i => atI xs i
  | .src xs, .int i => atI xs i
  | .tup xs, .int i => atI xs i
  | .str z, .int i => if z.length ≤ sizeLine then (atI z.cps.toList i).map fun c => .str ⟨#[c]⟩ else none
  | _, _ => none
theorem RpA.atI {K : PySem.W.Frag} {H : Hp} {vs : List V} {xs : List PV} {i : Int} {x : PV} (r : RpA K cl H vs xs) (h : L2.atI xs i = some x) : ∃ v, L2.atI vs i = some v ∧ Rp K cl H v x := by
  unfold L2.atI at h ⊢
  rw [r.length]
  cases e : ixN xs.length i with
  | none => rw [e] at h; cases h
  | some j => rw [e] at h; exact r.get h
theorem ve_ix {e i : Expr} (ha : PE X e (tv X.K cl W f)) (hb : PE X i (tv X.K cl W f')) (hs : PlainIx i := by exact fun _ _ => rfl) : PE X (.Subscript e i pos) (tv X.K cl W (e2 ixP f f')) :=
  peWeak (pe_ix ix_seq ha hb hs) fun σ H Q h => by
    refine op_use (r := rIx X.K) (g := ixP) ?_ h
    intro W σ Hs H x y u v w Q s rx ry e q
    cases ry with
    | int i =>
      cases rx with
      | lst h ra => obtain ⟨v, e1, r1⟩ := ra.atI e; exact .inl ⟨_, _, _, v, rfl, rfl, .of (s _ _ h), e1, q.here s r1⟩
      | src h ra => obtain ⟨v, e1, r1⟩ := ra.atI e; exact .inl ⟨_, _, _, v, rfl, rfl, s.seqL h, e1, q.here s r1⟩
      | tup h ra => obtain ⟨v, e1, r1⟩ := ra.atI e; exact .inr (.inl ⟨_, _, _, v, rfl, rfl, s.seqT h, e1, q.here s r1⟩)
      | str z =>
        replace e : (if z.length ≤ sizeLine then (L2.atI z.cps.toList i).map fun c => PV.str ⟨#[c]⟩ else none) = some w := e
        split at e
        · cases e1 : atI z.cps.toList i with
          | none => rw [e1] at e; cases e
          | some c => rw [e1] at e; cases e; exact .inr (.inr ⟨_, _, c, rfl, rfl, by assumption, e1, q.here s (.str _)⟩)
        · cases e
      | _ => cases e
    | _ => cases rx <;> cases e
/-- a slice's bound -/
abbrev Pt := Ev → R (Option Int)
def pNo : Pt := fun _ => .ok none
def pAt (a : Ex) : Pt := fun ρ => (a ρ).bind fun x => match x with | .int i => .ok (some i) | _ => .stuck
abbrev tpt (K : PySem.W.Frag) (cl : Nat → Addr) (W : WX) (f : Pt) : TO := gv K cl (fun _ o o' => o = o') W f
theorem poWeak {X : Cx} {e : Option Expr} {t t' : TO} (h : PO X e t) (w : ∀ σ H Q, t' σ H Q → t σ H Q) : PO X e t' := ⟨fun pins s σ H Q I q => h.run pins s σ H Q I (w σ H Q q)⟩
theorem vo_none : PO X none (tpt X.K cl W pNo) := poWeak po_none fun σ H Q ⟨Hs, ρ, E, h⟩ => GP.here (x := none) h E.sub rfl
theorem vo_some {e : Expr} (ha : PE X e (tv X.K cl W f)) : PO X (some e) (tpt X.K cl W (pAt f)) := poWeak (po_some ha) fun σ H Q ⟨Hs, ρ, E, h⟩ => by
  refine gv_bind E h fun v x Hs1 H1 _ s1 rx h1 => ?_
  cases rx with
  | int i => exact ⟨i, rfl, GP.here (x := some i) h1 s1.sub rfl⟩
  | _ => exact h1.elim
def cutP {α : Type} (xs : List α) (lo hi : Option Int) : List α := (xs.drop (HT.sIx xs.length 0 lo)).take (HT.sIx xs.length xs.length hi - HT.sIx xs.length 0 lo)
theorem RpA.cut {K : PySem.W.Frag} {H : Hp} {vs : List V} {xs : List PV} (r : RpA K cl H vs xs) (lo hi : Option Int) : RpA K cl H (cutV vs lo hi) (cutP xs lo hi) := by
  unfold cutV cutP
  rw [r.length]
  exact (r.drop _).take _
def slP (x : PV) (lo hi : Option Int) : Option PV := match x with
  | .lst xs => some (.lst (cutP xs lo hi))
  | .src xs => some (.lst (cutP xs lo hi))
  | .tup xs => some (.tup (cutP xs lo hi))
  | .str z => if z.length ≤ sizeLine then some (.str (cutS z lo hi)) else none
  | _ => none
def eSl (a : Ex) (lo hi : Pt) : Ex := fun ρ => (a ρ).bind fun x => (lo ρ).bind fun l => (hi ρ).bind fun h => opt (slP x l h)
theorem cut_whole {α : Type} {xs : List α} {lo hi : Option Int} (h : HT.sIx xs.length 0 lo = 0 ∧ HT.sIx xs.length xs.length hi = xs.length) : cutP xs lo hi = xs := by
  unfold cutP
  rw [h.1, h.2]
  simp
theorem ve_slice {e : Expr} {lo hi : Option Expr} {p2 : Pos} {l h : Pt} (ha : PE X e (tv X.K cl W f)) (hl : PO X lo (tpt X.K cl W l)) (hh : PO X hi (tpt X.K cl W h)) : PE X (.Subscript e (.Slice lo hi none p2) pos) (tv X.K cl W (eSl f l h)) :=
  peWeak (pe_slice (SlR.or (SlR.or sl_list sl_tupA) sl_str) ha hl hh) fun σ H Q ⟨Hs, ρ, E, h⟩ => by
    refine gv_bind E h fun v x Hs1 H1 _ s1 rx h1 => ?_
    refine gv_bind (E.up s1) h1 fun l1 l2 Hs2 H2 _ t1 el h2 => ?_
    refine gv_bind ((E.up s1).up t1) h2 fun u1 u2 Hs3 H3 _ w1 eu h3 => ?_
    subst el eu
    obtain ⟨w, e, q⟩ := h3.opt
    have rx3 := (rx.mono t1.fs).mono w1.fs
    cases rx3 with
    | lst h ra => cases e; exact .inl (.inl ⟨_, _, rfl, .of (w1.sub _ _ h), fun p n => new_lst q w1.sub n (ra.cut _ _)⟩)
    | src h ra => cases e; exact .inl (.inl ⟨_, _, rfl, w1.sub.seqL h, fun p n => new_lst q w1.sub n (ra.cut _ _)⟩)
    | tup h ra =>
      cases e
      refine .inl (.inr ⟨_, _, rfl, w1.sub.seqT h, fun whole => ?_, fun _ p n => new_tup q w1.sub n (ra.cut _ _)⟩)
      rw [ra.length] at whole
      rw [cut_whole whole] at q
      exact q.here w1.sub (.tup h ra)
    | str z =>
      replace e : (if z.length ≤ sizeLine then some (PV.str (cutS z l2 u2)) else none) = some w := e
      split at e
      · cases e; exact .inr ⟨_, rfl, by assumption, q.here w1.sub (.str _)⟩
      · cases e
    | _ => cases e
end
end VL
namespace VL
open PySem PySem.Spec PyProof.Rows L2
/-! ### the operations of values -/
/-- what a divisor stays below -/
def bigI : Int := 2 ^ 4000
theorem lt_bigI {j : Int} (h : j < 2 ^ 64) : j < bigI := Int.lt_trans h (by unfold bigI; decide +kernel)
def addP : PV → PV → Option PV
  | .int i, .int j => some (.int (i + j))
  | .str a, .str b => if a.length + b.length ≤ sizeLine then some (.str (a ++ b)) else none
  | .lst xs, .lst ys => if xs.length + ys.length ≤ sizeLine then some (.lst (xs ++ ys)) else none
  | .tup xs, .tup ys => if xs.length + ys.length ≤ sizeLine then some (.tup (xs ++ ys)) else none
  | _, _ => none
def subP : PV → PV → Option PV
  | .int i, .int j => some (.int (i - j))
  | _, _ => none
def mulOk (i j : Int) : Bool := ((decide (-(2 ^ 64) < i) && decide (i < 2 ^ 64)) || (decide (-(2 ^ 64) < j) && decide (j < 2 ^ 64))) || ((decide (-bigI < i) && decide (i < bigI)) && (decide (-bigI < j) && decide (j < bigI)))
def mulP : PV → PV → Option PV
  | .int i, .int j => if mulOk i j = true then some (.int (i * j)) else none
  | .lst xs, .int k => if -(2 ^ 63) ≤ k ∧ k < 2 ^ 63 ∧ xs.length * k.toNat ≤ sizeLine then some (.lst (List.replicate k.toNat xs).flatten) else none
  | _, _ => none
def modP : PV → PV → Option PV
  | .int i, .int j => if 0 < j then some (.int (i % j)) else none
  | _, _ => none
def divP : PV → PV → Option PV
  | .int i, .int j => if 0 < j ∧ j < bigI then some (.int (i / j)) else if j < 0 ∧ -bigI < j then some (.int ((-i) / (-j))) else none
  | _, _ => none
def powP : PV → PV → Option PV
  | .int i, .int j => if 0 ≤ j ∧ j ≤ 1000 ∧ -(2 ^ 60) < i ∧ i < 2 ^ 60 then some (.int (i ^ j.toNat)) else none
  | _, _ => none
/-- == -/
def eqB : PV → PV → Option Bool
  | .int i, .int j => some (decide (i = j))
  | .str i, .str j => some (decide (i = j))
  | .bl i, .bl j => some (decide (i = j))
  | .non, .non => some true
  | x, y => match x.data, y.data with
    | some d, some e => if SeqAt.shaped d = true ∧ SeqAt.shaped e = true then some (PyData.eqv d e) else none
    | _, _ => none
def eqP (x y : PV) : Option PV := (eqB x y).map .bl
def neP (x y : PV) : Option PV := (eqB x y).map fun b => .bl (!b)
def isP : PV → PV → Option PV
  | .non, .non => some (.bl true)
  | _, .non => some (.bl false)
  | .bl a, .bl b => some (.bl (decide (a = b)))
  | _, _ => none
def isntP : PV → PV → Option PV
  | .non, .non => some (.bl false)
  | _, .non => some (.bl true)
  | .bl a, .bl b => some (.bl (!decide (a = b)))
  | _, _ => none
def intsP : List PV → Option (List Int)
  | [] => some []
  | .int i :: r => (intsP r).map (i :: ·)
  | _ :: _ => none
def ltP : PV → PV → Option PV
  | .int i, .int j => some (.bl (decide (i < j)))
  | .str i, .str j => some (.bl (decide (i.cps.toList < j.cps.toList)))
  | .tup xs, .tup ys => (intsP xs).bind fun ns => (intsP ys).map fun ms => .bl (HT.lexLt ns ms)
  | _, _ => none
def leP : PV → PV → Option PV
  | .int i, .int j => some (.bl (decide (i ≤ j)))
  | .str i, .str j => some (.bl (!decide (j.cps.toList < i.cps.toList)))
  | _, _ => none
def gtP : PV → PV → Option PV
  | .int i, .int j => some (.bl (decide (j < i)))
  | _, _ => none
def geP : PV → PV → Option PV
  | .int i, .int j => some (.bl (decide (j ≤ i)))
  | _, _ => none
def flatP : PV → Bool
  | .non => true | .bl _ => true | .int _ => true | .str _ => true
  | _ => false
def eqF : PV → PV → Bool
  | .non, .non => true
  | .bl a, .bl b => a == b
  | .bl a, .int b => (if a then 1 else 0) == b
  | .int a, .bl b => a == (if b then 1 else 0)
  | .int a, .int b => a == b
  | .str a, .str b => a == b
  | _, _ => false
def dataIn (x : PV) (xs : List PV) : Option Bool := match x.data, PV.datas xs with
  | some d, some ds => if SeqAt.shaped d = true ∧ SeqAt.shaped (.list ds) = true then some (ds.any fun z => PyData.eqv z d) else none
  | _, _ => none
def inB (x : PV) : PV → Option Bool
  | .lst xs => if flatP x = true ∧ xs.all flatP = true then some (xs.any fun y => eqF y x) else dataIn x xs
  | .src xs => if flatP x = true ∧ xs.all flatP = true then some (xs.any fun y => eqF y x) else dataIn x xs
  | .tup xs => if flatP x = true ∧ xs.all flatP = true then some (xs.any fun y => eqF y x) else none
  | .str z => match x with
    | .str c => if c.cps.size = 1 then some (decide (c.cps.getD 0 0 ∈ z.cps.toList)) else some (!(Builtin.Str.occurrences z c 0 z.length 1).isEmpty)
    | _ => none
  | _ => none
def inP (x y : PV) : Option PV := (inB x y).map .bl
def ninP (x y : PV) : Option PV := (inB x y).map fun b => .bl (!b)
def negP : PV → Option PV
  | .int i => some (.int (-i))
  | _ => none

section
variable {K : PySem.W.Frag} {cl : Nat → Addr} {H Hs : Hp}
theorem RpA.ints : ∀ {vs : List V} {xs : List PV} {ns : List Int}, RpA K cl H vs xs → intsP xs = some ns → vs = ns.map V.int
  | _, _, _, .nil, e => by cases e; rfl
  | _, _, _, .cons r t, e => by
    cases r with
    | int i =>
      replace e : (intsP _).map (i :: ·) = some _ := e
      rw [Option.map_eq_some_iff] at e
      obtain ⟨r, e1, rfl⟩ := e
      rw [t.ints e1]
      rfl
    | _ => cases e
theorem RpA.flat : ∀ {vs : List V} {xs : List PV}, RpA K cl H vs xs → xs.all flatP = true → vs.all flatV = true
  | _, _, .nil, e => rfl
  | _, _, .cons r t, e => by
    rw [List.all_cons, Bool.and_eq_true] at e ⊢
    refine ⟨?_, t.flat e.2⟩
    cases r <;> first | rfl | cases e.1
theorem Rp.flat {v : V} {x : PV} (r : Rp K cl H v x) (e : flatP x = true) : flatV v = true := by cases r <;> first | rfl | cases e
theorem eqF_ok {v w : V} {x y : PV} (r : Rp K cl H v x) (q : Rp K cl H w y) : L2.eqV v w = eqF x y := by
  cases r <;> cases q <;> rfl
theorem RpA.any {w : V} {y : PV} (q : Rp K cl H w y) : ∀ {vs : List V} {xs : List PV}, RpA K cl H vs xs → (vs.any fun v => L2.eqV v w) = xs.any fun x => eqF x y
  | _, _, .nil => rfl
  | _, _, .cons r t => by rw [List.any_cons, List.any_cons, eqF_ok r q, RpA.any q t]
theorem Rp.nonIff {v : V} {x : PV} (r : Rp K cl H v x) : decide (v = .non) = (match x with | .non => true | _ => false) := by
  cases r <;> rfl
end

section
variable {X : Cx} {cl : Nat → Addr}
theorem ov_add : OpV X.K cl (fun x y H Q => ((rI0 fun i j => .int (i + j)) x y H Q ∨ (∃ i j, x = V.str i ∧ y = V.str j ∧ i.length + j.length ≤ sizeLine ∧ Q (.str (i ++ j)) H)) ∨ rCat x y H Q ∨ rCatA X.K x y H Q) addP := by
  intro W σ Hs H x y u v w Q s rx ry e q
  cases rx with
  | int i =>
    cases ry with
    | int j => cases e; exact .inl (.inl ⟨_, _, rfl, rfl, q.here s (.int _)⟩)
    | _ => cases e
  | str i =>
    cases ry with
    | str j =>
      replace e : (if i.length + j.length ≤ sizeLine then some (PV.str (i ++ j)) else none) = some w := e
      split at e
      · cases e; exact .inl (.inr ⟨_, _, rfl, rfl, by assumption, q.here s (.str _)⟩)
      · cases e
    | _ => cases e
  | @lst a vs xs h ra =>
    cases ry with
    | @lst b ws ys h' rb =>
      replace e : (if xs.length + ys.length ≤ sizeLine then some (PV.lst (xs ++ ys)) else none) = some w := e
      split at e
      · cases e; exact .inr (.inl ⟨_, _, _, _, rfl, rfl, s _ _ h, s _ _ h', by rw [ra.length, rb.length]; assumption, fun p n => new_lst q s n (ra.append rb)⟩)
      · cases e
    | _ => cases e
  | @tup a vs xs h ra =>
    cases ry with
    | @tup b ws ys h' rb =>
      replace e : (if xs.length + ys.length ≤ sizeLine then some (PV.tup (xs ++ ys)) else none) = some w := e
      split at e
      · cases e
        refine .inr (.inr ⟨_, _, _, _, rfl, rfl, s.seqT h, s.seqT h', by rw [ra.length, rb.length]; assumption, fun z => ?_, fun _ z => ?_, fun _ _ p n => new_tup q s n (ra.append rb)⟩)
        · subst z; cases ra; exact q.here s (.tup h' rb)
        · subst z; cases rb; rw [List.append_nil] at q; exact q.here s (.tup h ra)
      · cases e
    | _ => cases e
  | _ => cases e
theorem or_add : OpR X (binaryOp .Add) (fun x y H Q => ((rI0 fun i j => .int (i + j)) x y H Q ∨ (∃ i j, x = V.str i ∧ y = V.str j ∧ i.length + j.length ≤ sizeLine ∧ Q (.str (i ++ j)) H)) ∨ rCat x y H Q ∨ rCatA X.K x y H Q) := (op_add.or op_add_str).or (op_cat.or op_catA)
theorem ov_sub : OpV X.K cl (rI0 fun i j => .int (i - j)) subP := by
  intro W σ Hs H x y u v w Q s rx ry e q
  cases rx with
  | int i =>
    cases ry with
    | int j => cases e; exact ⟨_, _, rfl, rfl, q.here s (.int _)⟩
    | _ => cases e
  | _ => cases e
theorem log_big {j : Int} (h1 : j < bigI) (h2 : -bigI < j) : j.natAbs.log2 < 9000 := by
  have h5 : 4000 ≤ 9000 := by decide
  refine Nat.lt_of_lt_of_le (PySem.Flt.log2_lt_of (Nat.zero_lt_succ 3999) ?_) h5
  have h3 : (j.natAbs : Int) < ((2 ^ 4000 : Nat) : Int) := by
    rw [Int.natCast_pow]
    have : (j.natAbs : Int) < bigI := by omega
    exact this
  exact Int.ofNat_lt.mp h3
def CMulS (i j : Int) : Prop := mulOk i j = true
theorem CMulS.ok {i j : Int} (h : CMulS i j) : IntMulOk i j := by
  unfold CMulS mulOk at h
  simp only [Bool.or_eq_true, Bool.and_eq_true, decide_eq_true_eq] at h
  rcases h with h | ⟨⟨a, b⟩, c, e⟩
  · exact CMul.ok h
  · have x := log_big b a
    have y := log_big e c
    exact CMulW.ok (show i.natAbs.log2 + j.natAbs.log2 < 1000000 by omega)
theorem op_mulS : OpR X (binaryOp .Mult) (rI CMulS fun i j => .int (i * j)) := opI fun _ _ _ _ _ _ _ hc q => mul_int q (CMulS.ok hc)
theorem iop_mulS : OpR X (inplaceOp .Mult) (rI CMulS fun i j => .int (i * j)) := opI fun _ _ _ _ _ _ _ hc q => imul_int q (CMulS.ok hc)
theorem ov_mul : OpV X.K cl (fun x y H Q => (rI CMulS fun i j => .int (i * j)) x y H Q ∨ rRep x y H Q) mulP := by
  intro W σ Hs H x y u v w Q s rx ry e q
  cases rx with
  | int i =>
    cases ry with
    | int j =>
      replace e : (if mulOk i j = true then some (PV.int (i * j)) else none) = some w := e
      split at e
      · rename_i hk
        cases e
        exact .inl ⟨_, _, rfl, rfl, hk, q.here s (.int _)⟩
      · cases e
    | _ => cases e
  | @lst a vs xs h ra =>
    cases ry with
    | int k =>
      replace e : (if -(2 ^ 63) ≤ k ∧ k < 2 ^ 63 ∧ xs.length * k.toNat ≤ sizeLine then some (PV.lst (List.replicate k.toNat xs).flatten) else none) = some w := e
      split at e
      · rename_i hk
        cases e
        exact .inr ⟨_, _, _, rfl, rfl, s _ _ h, hk.1, hk.2.1, by rw [ra.length]; exact hk.2.2, fun p n => new_lst q s n (ra.rep _)⟩
      · cases e
    | _ => cases e
  | _ => cases e
theorem or_mul : OpR X (binaryOp .Mult) (fun x y H Q => (rI CMulS fun i j => .int (i * j)) x y H Q ∨ rRep x y H Q) := op_mulS.or op_rep
theorem ov_mod : OpV X.K cl (rI (fun _ j => 0 < j) fun i j => .int (i % j)) modP := by
  intro W σ Hs H x y u v w Q s rx ry e q
  cases rx with
  | int i =>
    cases ry with
    | int j =>
      replace e : (if 0 < j then some (PV.int (i % j)) else none) = some w := e
      split at e
      · cases e; exact ⟨_, _, rfl, rfl, by assumption, q.here s (.int _)⟩
      · cases e
    | _ => cases e
  | _ => cases e
def CDivS (_ j : Int) : Prop := j ≠ 0 ∧ j.natAbs.log2 < 9000
theorem op_fdivS : OpR X (binaryOp .FloorDiv) (rI CDivS fun i j => .int (i.fdiv j)) := opI fun i j _ _ _ _ _ hc q => floordiv_int hc.1 q (.inl (PyProof.noPylong_of_log2 hc.2))
theorem big_log {j : Int} (h0 : j ≠ 0) (h1 : j < bigI) (h2 : -bigI < j) : CDivS 0 j := by
  have h5 : 4000 ≤ 9000 := by decide
  refine ⟨h0, Nat.lt_of_lt_of_le (PySem.Flt.log2_lt_of (Nat.zero_lt_succ 3999) ?_) h5⟩
  have h3 : (j.natAbs : Int) < ((2 ^ 4000 : Nat) : Int) := by
    rw [Int.natCast_pow]
    have : (j.natAbs : Int) < bigI := by omega
    exact this
  exact Int.ofNat_lt.mp h3
theorem ov_div : OpV X.K cl (rI CDivS fun i j => .int (i.fdiv j)) divP := by
  intro W σ Hs H x y u v w Q s rx ry e q
  cases rx with
  | int i =>
    cases ry with
    | int j =>
      replace e : (if 0 < j ∧ j < bigI then some (PV.int (i / j)) else if j < 0 ∧ -bigI < j then some (.int ((-i) / (-j))) else none) = some w := e
      split at e
      · rename_i hk
        cases e
        have hB : (0 : Int) < bigI := Int.lt_trans hk.1 hk.2
        refine ⟨_, _, rfl, rfl, (big_log (by omega) hk.2 (by omega) : CDivS i j), ?_⟩
        have e3 : i.fdiv j = i / j := Int.fdiv_eq_ediv_of_nonneg i (by omega)
        show Q (.int (i.fdiv j)) H
        rw [e3]
        exact q.here s (.int _)
      · split at e
        · rename_i hk
          cases e
          have hB : (0 : Int) < bigI := by omega
          refine ⟨_, _, rfl, rfl, (big_log (by omega) (by omega) hk.2 : CDivS i j), ?_⟩
          have e3 : i.fdiv j = (-i) / (-j) := by rw [← Int.neg_fdiv_neg, Int.fdiv_eq_ediv_of_nonneg _ (by omega)]
          show Q (.int (i.fdiv j)) H
          rw [e3]
          exact q.here s (.int _)
        · cases e
    | _ => cases e
  | _ => cases e
theorem ov_pow : OpV X.K cl (rI CPow fun i j => .int (i ^ j.toNat)) powP := by
  intro W σ Hs H x y u v w Q s rx ry e q
  cases rx with
  | int i =>
    cases ry with
    | int j =>
      replace e : (if 0 ≤ j ∧ j ≤ 1000 ∧ -(2 ^ 60) < i ∧ i < 2 ^ 60 then some (PV.int (i ^ j.toNat)) else none) = some w := e
      split at e
      · rename_i hk
        cases e
        exact ⟨_, _, rfl, rfl, ⟨hk.1, by omega, by omega⟩, q.here s (.int _)⟩
      · cases e
    | _ => cases e
  | _ => cases e
theorem eq_split {Hs H : Hp} {x y : V} {u v : PV} {b : Bool} (s : Sub Hs H) (rx : Rp X.K cl Hs x u) (ry : Rp X.K cl Hs y v) (e : eqB u v = some b) :
    (scal x y = true ∧ decide (x = y) = b) ∨ ∃ d e, Dp X.K H x d ∧ Dp X.K H y e ∧ SeqAt.shaped d = true ∧ SeqAt.shaped e = true ∧ PyData.eqv d e = b := by
  have gen : (match u.data, v.data with
    | some d, some e => if SeqAt.shaped d = true ∧ SeqAt.shaped e = true then some (PyData.eqv d e) else none
    | _, _ => none) = some b → ∃ d e, Dp X.K H x d ∧ Dp X.K H y e ∧ SeqAt.shaped d = true ∧ SeqAt.shaped e = true ∧ PyData.eqv d e = b := by
    intro h
    split at h
    · rename_i d e1 h1 h2
      split at h
      · rename_i hs
        cases h
        exact ⟨d, e1, (rx.mono s).dp h1, (ry.mono s).dp h2, hs.1, hs.2, rfl⟩
      · cases h
    · cases h
  have tail : ∀ {u' v' : PV}, (∀ {o : Option Bool}, o = o) → True := fun _ => trivial
  cases rx with
  | int i =>
    cases ry with
    | int j => cases e; exact .inl ⟨rfl, by simp⟩
    | _ => exact .inr (gen e)
  | str i =>
    cases ry with
    | str j => cases e; exact .inl ⟨rfl, by simp⟩
    | _ => exact .inr (gen e)
  | bl i =>
    cases ry with
    | bl j => cases e; exact .inl ⟨rfl, by simp⟩
    | _ => exact .inr (gen e)
  | non =>
    cases ry with
    | non => cases e; exact .inl ⟨rfl, rfl⟩
    | _ => exact .inr (gen e)
  | tup h ra => cases ry <;> exact .inr (gen e)
  | lst h ra => cases ry <;> exact .inr (gen e)
  | src h ra => cases ry <;> exact .inr (gen e)
  | dct h ra => cases ry <;> exact .inr (gen e)
  | obj h ra => cases ry <;> exact .inr (gen e)
  | ty n => cases ry <;> exact .inr (gen e)
theorem ov_eq : OpV X.K cl (fun x y H Q => rEq x y H Q ∨ rEqD X.K x y H Q) eqP := by
  intro W σ Hs H x y u v w Q s rx ry e q
  unfold eqP at e
  rw [Option.map_eq_some_iff] at e
  obtain ⟨b, e1, rfl⟩ := e
  rcases eq_split s rx ry e1 with ⟨h1, h2⟩ | ⟨d, e2, h1, h2, h3, h4, h5⟩
  · exact .inl ⟨h1, by rw [h2]; exact q.here s (.bl b)⟩
  · exact .inr ⟨d, e2, h1, h2, h3, h4, by rw [h5]; exact q.here s (.bl b)⟩
theorem ov_ne : OpV X.K cl (fun x y H Q => rNe x y H Q ∨ rNeD X.K x y H Q) neP := by
  intro W σ Hs H x y u v w Q s rx ry e q
  unfold neP at e
  rw [Option.map_eq_some_iff] at e
  obtain ⟨b, e1, rfl⟩ := e
  rcases eq_split s rx ry e1 with ⟨h1, h2⟩ | ⟨d, e2, h1, h2, h3, h4, h5⟩
  · exact .inl ⟨h1, by rw [h2]; exact q.here s (.bl (!b))⟩
  · exact .inr ⟨d, e2, h1, h2, h3, h4, by rw [h5]; exact q.here s (.bl (!b))⟩
theorem or_eq (hu : X.A.units + 64 < cLine) : OpR X (compareOp .Eq) (fun x y H Q => rEq x y H Q ∨ rEqD X.K x y H Q) := op_eq.or (op_eqD hu)
theorem or_ne (hu : X.A.units + 64 < cLine) : OpR X (compareOp .NotEq) (fun x y H Q => rNe x y H Q ∨ rNeD X.K x y H Q) := op_ne.or (op_neD hu)
theorem ov_is : OpV X.K cl (fun x y H Q => (y = .non ∧ Q (.bl (decide (x = .non))) H) ∨ ∃ a b, x = V.bl a ∧ y = V.bl b ∧ Q (.bl (decide (a = b))) H) isP := by
  intro W σ Hs H x y u v w Q s rx ry e q
  cases ry with
  | non => exact .inl ⟨rfl, by cases rx <;> (cases e; exact q.here s (.bl _))⟩
  | bl b =>
    cases rx with
    | bl a => cases e; exact .inr ⟨_, _, rfl, rfl, q.here s (.bl _)⟩
    | _ => cases e
  | _ => cases rx <;> cases e
theorem ov_isnt : OpV X.K cl (fun x y H Q => (y = .non ∧ Q (.bl (!decide (x = .non))) H) ∨ ∃ a b, x = V.bl a ∧ y = V.bl b ∧ Q (.bl (!decide (a = b))) H) isntP := by
  intro W σ Hs H x y u v w Q s rx ry e q
  cases ry with
  | non => exact .inl ⟨rfl, by cases rx <;> (cases e; exact q.here s (.bl _))⟩
  | bl b =>
    cases rx with
    | bl a => cases e; exact .inr ⟨_, _, rfl, rfl, q.here s (.bl _)⟩
    | _ => cases e
  | _ => cases rx <;> cases e
theorem or_is : OpR X (compareOp .Is) (fun x y H Q => (y = .non ∧ Q (.bl (decide (x = .non))) H) ∨ ∃ a b, x = V.bl a ∧ y = V.bl b ∧ Q (.bl (decide (a = b))) H) := op_isN.or op_is_bl
theorem or_isnt : OpR X (compareOp .IsNot) (fun x y H Q => (y = .non ∧ Q (.bl (!decide (x = .non))) H) ∨ ∃ a b, x = V.bl a ∧ y = V.bl b ∧ Q (.bl (!decide (a = b))) H) := op_notN.or op_isnot_bl
theorem ov_lt : OpV X.K cl (fun x y H Q => ((rI0 fun i j => .bl (decide (i < j))) x y H Q ∨ (∃ i j, x = V.str i ∧ y = V.str j ∧ Q (.bl (decide (i.cps.toList < j.cps.toList))) H)) ∨ rLtT X.K x y H Q) ltP := by
  intro W σ Hs H x y u v w Q s rx ry e q
  cases rx with
  | int i =>
    cases ry with
    | int j => cases e; exact .inl (.inl ⟨_, _, rfl, rfl, q.here s (.bl _)⟩)
    | _ => cases e
  | str i =>
    cases ry with
    | str j => cases e; exact .inl (.inr ⟨_, _, rfl, rfl, q.here s (.bl _)⟩)
    | _ => cases e
  | @tup a vs xs h ra =>
    cases ry with
    | @tup b ws ys h' rb =>
      replace e : ((intsP xs).bind fun ns => (intsP ys).map fun ms => PV.bl (HT.lexLt ns ms)) = some w := e
      rw [Option.bind_eq_some_iff] at e
      obtain ⟨ns, e1, e⟩ := e
      rw [Option.map_eq_some_iff] at e
      obtain ⟨ms, e2, rfl⟩ := e
      have z1 := ra.ints e1
      have z2 := rb.ints e2
      subst z1 z2
      exact .inr ⟨_, _, _, _, rfl, rfl, s.seqT h, s.seqT h', q.here s (.bl _)⟩
    | _ => cases e
  | _ => cases e
theorem or_lt (hu : X.A.units < cLine) : OpR X (compareOp .Lt) (fun x y H Q => ((rI0 fun i j => .bl (decide (i < j))) x y H Q ∨ (∃ i j, x = V.str i ∧ y = V.str j ∧ Q (.bl (decide (i.cps.toList < j.cps.toList))) H)) ∨ rLtT X.K x y H Q) := (op_lt.or op_lt_str).or (op_ltT hu)
theorem ov_le : OpV X.K cl (fun x y H Q => (rI0 fun i j => .bl (decide (i ≤ j))) x y H Q ∨ (∃ i j, x = V.str i ∧ y = V.str j ∧ Q (.bl (!decide (j.cps.toList < i.cps.toList))) H)) leP := by
  intro W σ Hs H x y u v w Q s rx ry e q
  cases rx with
  | int i =>
    cases ry with
    | int j => cases e; exact .inl ⟨_, _, rfl, rfl, q.here s (.bl _)⟩
    | _ => cases e
  | str i =>
    cases ry with
    | str j => cases e; exact .inr ⟨_, _, rfl, rfl, q.here s (.bl _)⟩
    | _ => cases e
  | _ => cases e
theorem or_le : OpR X (compareOp .LtE) (fun x y H Q => (rI0 fun i j => .bl (decide (i ≤ j))) x y H Q ∨ (∃ i j, x = V.str i ∧ y = V.str j ∧ Q (.bl (!decide (j.cps.toList < i.cps.toList))) H)) := op_le.or op_le_str
theorem ov_gt : OpV X.K cl (rI0 fun i j => .bl (decide (j < i))) gtP := by
  intro W σ Hs H x y u v w Q s rx ry e q
  cases rx with
  | int i =>
    cases ry with
    | int j => cases e; exact ⟨_, _, rfl, rfl, q.here s (.bl _)⟩
    | _ => cases e
  | _ => cases e
theorem ov_ge : OpV X.K cl (rI0 fun i j => .bl (decide (j ≤ i))) geP := by
  intro W σ Hs H x y u v w Q s rx ry e q
  cases rx with
  | int i =>
    cases ry with
    | int j => cases e; exact ⟨_, _, rfl, rfl, q.here s (.bl _)⟩
    | _ => cases e
  | _ => cases e
def rInAll (K : PySem.W.Frag) : R2 := fun x y H Q => (rIn K false x y H Q ∨ rInD K x y H Q) ∨ (∃ (c : Nat) (z : Str), x = .str ⟨#[c]⟩ ∧ y = .str z ∧ Q (.bl (decide (c ∈ z.cps.toList))) H) ∨ ∃ i j, x = V.str i ∧ y = V.str j ∧ Q (.bl (!(Builtin.Str.occurrences j i 0 j.length 1).isEmpty)) H
def rNinAll (K : PySem.W.Frag) : R2 := fun x y H Q => (rIn K true x y H Q ∨ rNotInD K x y H Q) ∨ (∃ (c : Nat) (z : Str), x = .str ⟨#[c]⟩ ∧ y = .str z ∧ Q (.bl (!decide (c ∈ z.cps.toList))) H) ∨ ∃ i j, x = V.str i ∧ y = V.str j ∧ Q (.bl (!(!(Builtin.Str.occurrences j i 0 j.length 1).isEmpty))) H
theorem or_in (hu : X.A.units + 65 < cLine) : OpR X (compareOp .In) (rInAll X.K) := (op_in_seq.or (op_inD hu)).or (op_in_sign.or op_in_str)
theorem or_nin (hu : X.A.units + 65 < cLine) : OpR X (compareOp .NotIn) (rNinAll X.K) := (op_notIn_seq.or (op_notInD hu)).or (op_notIn_sign.or op_notin_str)
theorem one_sign {c : Str} (h : c.cps.size = 1) : c = ⟨#[c.cps.getD 0 0]⟩ := by
  obtain ⟨⟨l⟩⟩ := c
  match l, h with
  | [x], _ => rfl
theorem in_split {Hs H : Hp} {x y : V} {u v : PV} {b : Bool} (s : Sub Hs H) (rx : Rp X.K cl Hs x u) (ry : Rp X.K cl Hs y v) (e : inB u v = some b) :
    (∃ p xs, y = .ref p ∧ (SqL X.K H p xs ∨ SqT X.K H p xs) ∧ flatV x = true ∧ xs.all flatV = true ∧ inV x xs = b) ∨ (∃ d ds, Dp X.K H x d ∧ Dp X.K H y (.list ds) ∧ SeqAt.shaped d = true ∧ SeqAt.shaped (.list ds) = true ∧ (ds.any fun z => PyData.eqv z d) = b) ∨
      (∃ (c : Nat) (z : Str), x = .str ⟨#[c]⟩ ∧ y = .str z ∧ decide (c ∈ z.cps.toList) = b) ∨ ∃ i j, x = V.str i ∧ y = V.str j ∧ (!(Builtin.Str.occurrences j i 0 j.length 1).isEmpty) = b := by
  have deep : ∀ {a : Addr} {vs : List V} {xs : List PV}, SqL X.K H a vs → RpA X.K cl Hs vs xs → dataIn u xs = some b → ∃ d ds, Dp X.K H x d ∧ Dp X.K H (.ref a) (.list ds) ∧ SeqAt.shaped d = true ∧ SeqAt.shaped (.list ds) = true ∧ (ds.any fun z => PyData.eqv z d) = b := by
    intro a vs xs h ra h2
    unfold dataIn at h2
    split at h2
    · rename_i d ds e1 e2
      split at h2
      · rename_i hs
        cases h2
        exact ⟨d, ds, (rx.mono s).dp e1, .lst h ((ra.mono s).dp e2), hs.1, hs.2, rfl⟩
      · cases h2
    · cases h2
  cases ry with
  | @lst a vs xs h ra =>
    replace e : (if flatP u = true ∧ xs.all flatP = true then some (xs.any fun y => eqF y u) else dataIn u xs) = some b := e
    split at e
    · rename_i hf
      cases e
      exact .inl ⟨_, _, rfl, .inl (.of (s _ _ h)), rx.flat hf.1, ra.flat hf.2, RpA.any rx ra⟩
    · exact .inr (.inl (deep (.of (s _ _ h)) ra e))
  | @src a vs xs h ra =>
    replace e : (if flatP u = true ∧ xs.all flatP = true then some (xs.any fun y => eqF y u) else dataIn u xs) = some b := e
    split at e
    · rename_i hf
      cases e
      exact .inl ⟨_, _, rfl, .inl (s.seqL h), rx.flat hf.1, ra.flat hf.2, RpA.any rx ra⟩
    · exact .inr (.inl (deep (s.seqL h) ra e))
  | @tup a vs xs h ra =>
    replace e : (if flatP u = true ∧ xs.all flatP = true then some (xs.any fun y => eqF y u) else none) = some b := e
    split at e
    · rename_i hf
      cases e
      exact .inl ⟨_, _, rfl, .inr (s.seqT h), rx.flat hf.1, ra.flat hf.2, RpA.any rx ra⟩
    · cases e
  | str z =>
    cases rx with
    | str c =>
      replace e : (if c.cps.size = 1 then some (decide (c.cps.getD 0 0 ∈ z.cps.toList)) else some (!(Builtin.Str.occurrences z c 0 z.length 1).isEmpty)) = some b := e
      split at e
      · rename_i hc
        cases e
        exact .inr (.inr (.inl ⟨_, _, congrArg V.str (one_sign hc), rfl, rfl⟩))
      · cases e
        exact .inr (.inr (.inr ⟨_, _, rfl, rfl, rfl⟩))
    | _ => cases e
  | _ => cases e
theorem ov_in : OpV X.K cl (rInAll X.K) inP := by
  intro W σ Hs H x y u v w Q s rx ry e q
  unfold inP at e
  rw [Option.map_eq_some_iff] at e
  obtain ⟨b, e1, rfl⟩ := e
  have q := q.here s (.bl b)
  rcases in_split s rx ry e1 with ⟨p, xs, h1, h2, h3, h4, h5⟩ | ⟨d, ds, h1, h2, h3, h4, h5⟩ | ⟨c, z, h1, h2, h5⟩ | ⟨i, j, h1, h2, h5⟩
  · exact .inl (.inl ⟨p, xs, h1, h2, h3, h4, by rw [if_neg Bool.false_ne_true, h5]; exact q⟩)
  · exact .inl (.inr ⟨d, ds, h1, h2, h3, h4, by rw [h5]; exact q⟩)
  · exact .inr (.inl ⟨c, z, h1, h2, by rw [h5]; exact q⟩)
  · exact .inr (.inr ⟨i, j, h1, h2, by rw [h5]; exact q⟩)
theorem ov_nin : OpV X.K cl (rNinAll X.K) ninP := by
  intro W σ Hs H x y u v w Q s rx ry e q
  unfold ninP at e
  rw [Option.map_eq_some_iff] at e
  obtain ⟨b, e1, rfl⟩ := e
  have q := q.here s (.bl (!b))
  rcases in_split s rx ry e1 with ⟨p, xs, h1, h2, h3, h4, h5⟩ | ⟨d, ds, h1, h2, h3, h4, h5⟩ | ⟨c, z, h1, h2, h5⟩ | ⟨i, j, h1, h2, h5⟩
  · exact .inl (.inl ⟨p, xs, h1, h2, h3, h4, by rw [if_pos rfl, h5]; exact q⟩)
  · exact .inl (.inr ⟨d, ds, h1, h2, h3, h4, by rw [h5]; exact q⟩)
  · exact .inr (.inl ⟨c, z, h1, h2, by rw [h5]; exact q⟩)
  · exact .inr (.inr ⟨i, j, h1, h2, by rw [h5]; exact q⟩)
theorem ve_neg {W : WX} {a : Expr} {f : Ex} {pos : Pos} (ha : PE X a (tv X.K cl W f)) : PE X (.UnaryOp .USub a pos) (tv X.K cl W (e1 negP f)) :=
  peWeak (pe_un un_neg ha) fun σ H Q ⟨Hs, ρ, E, h⟩ => by
    refine gv_bind E h fun v x Hs1 H1 _ s1 rx h1 => ?_
    obtain ⟨w, e, q⟩ := h1.opt
    cases rx with
    | int i => cases e; exact ⟨i, rfl, q.here s1.sub (.int _)⟩
    | _ => cases e
end

/-! ### built-in functions -/
def lenP : List PV → Option PV
  | [.str y] => if y.length ≤ sizeLine then some (.int y.length) else none
  | [.lst xs] => some (.int xs.length)
  | [.src xs] => some (.int xs.length)
  | [.tup xs] => some (.int xs.length)
  | _ => none
def absP : List PV → Option PV
  | [.int i] => some (.int (if i < 0 then -i else i))
  | _ => none
def intP : List PV → Option PV
  | [.int i] => some (.int i)
  | [.bl b] => some (.int (if b then 1 else 0))
  | _ => none
def minL : List Int → Int
  | [] => 0
  | [x] => x
  | x :: r => min x (minL r)
def maxL : List Int → Int
  | [] => 0
  | [x] => x
  | x :: r => max x (maxL r)
theorem minL_ok : ∀ {ns : List Int}, ns ≠ [] → minL ns ∈ ns ∧ ∀ y ∈ ns, minL ns ≤ y
  | [], h => absurd rfl h
  | [x], _ => by simp [minL]
  | x :: y :: r, _ => by
    obtain ⟨h1, h2⟩ := minL_ok (ns := y :: r) (by simp)
    have e : minL (x :: y :: r) = min x (minL (y :: r)) := rfl
    rw [e]
    refine ⟨?_, fun z hz => ?_⟩
    · by_cases c : x ≤ minL (y :: r)
      · rw [Int.min_eq_left c]; exact List.mem_cons_self
      · rw [Int.min_eq_right (by omega)]; exact List.mem_cons_of_mem _ h1
    · rcases List.mem_cons.mp hz with rfl | hz
      · exact Int.min_le_left _ _
      · exact Int.le_trans (Int.min_le_right _ _) (h2 z hz)
theorem maxL_ok : ∀ {ns : List Int}, ns ≠ [] → maxL ns ∈ ns ∧ ∀ y ∈ ns, y ≤ maxL ns
  | [], h => absurd rfl h
  | [x], _ => by simp [maxL]
  | x :: y :: r, _ => by
    obtain ⟨h1, h2⟩ := maxL_ok (ns := y :: r) (by simp)
    have e : maxL (x :: y :: r) = max x (maxL (y :: r)) := rfl
    rw [e]
    refine ⟨?_, fun z hz => ?_⟩
    · by_cases c : maxL (y :: r) ≤ x
      · rw [Int.max_eq_left c]; exact List.mem_cons_self
      · rw [Int.max_eq_right (by omega)]; exact List.mem_cons_of_mem _ h1
    · rcases List.mem_cons.mp hz with rfl | hz
      · exact Int.le_max_left _ _
      · exact Int.le_trans (h2 z hz) (Int.le_max_right _ _)
def minP : List PV → Option PV
  | [.int i, .int j] => some (.int (if j < i then j else i))
  | [.lst xs] => (intsP xs).bind fun ns => if ns = [] then none else some (.int (minL ns))
  | _ => none
def maxP : List PV → Option PV
  | [.int i, .int j] => some (.int (if j > i then j else i))
  | [.lst xs] => (intsP xs).bind fun ns => if ns = [] then none else some (.int (maxL ns))
  | _ => none
def sumP : List PV → Option PV
  | [.lst xs] => (intsP xs).map fun ns => .int ns.sum
  | _ => none
def sortI (ns : List Int) : List Int := ns.mergeSort (fun a b => decide (a ≤ b))
theorem sortI_ok (ns : List Int) : (sortI ns).Perm ns ∧ (sortI ns).Pairwise (· ≤ ·) := by
  refine ⟨List.mergeSort_perm _ _, ?_⟩
  have h := List.pairwise_mergeSort (le := fun a b : Int => decide (a ≤ b)) (fun a b c h1 h2 => by simp at *; omega) (fun a b => by simp; omega) ns
  exact h.imp fun h => by simpa using h
def sortP : List PV → Option PV
  | [.lst xs] => (intsP xs).map fun ns => .lst ((sortI ns).map .int)
  | _ => none
def listP : List PV → Option PV
  | [.lst xs] => some (.lst xs)
  | [.src xs] => some (.lst xs)
  | [.tup xs] => some (.lst xs)
  | _ => none
def tupleP : List PV → Option PV
  | [.lst xs] => some (.tup xs)
  | [.tup xs] => some (.tup xs)
  | _ => none
def strP : List PV → Option PV
  | [.int i] => if -(2 ^ 1000) < i ∧ i < 2 ^ 1000 then some (.str (toString i)) else none
  | _ => none
def tyName : PV → Option String
  | .non => some "NoneType" | .bl _ => some "bool" | .int _ => some "int" | .str _ => some "str"
  | .tup _ => some "tuple" | .lst _ => some "list" | .src _ => some "list" | .dct _ => some "dict"
  | _ => none
/-- isinstance of built-in classes -/
def isaT (a b : String) : Option Bool :=
  if b = "int" ∨ b = "str" ∨ b = "tuple" ∨ b = "list" ∨ b = "bool" ∨ b = "dict" then
    some (decide (a = b) || (decide (a = "bool") && decide (b = "int")))
  else none
def isaP : List PV → Option PV
  | [x, .ty n] => (tyName x).bind fun t => (isaT t n).map .bl
  | _ => none
theorem isaT_ok {K : PySem.W.Frag} {x : PV} {t n : String} {b : Bool} (ht : tyName x = some t) (h : isaT t n = some b) : PySem.W.kitOne K (.type t) (.type n) = some b := by
  have ha : t = "NoneType" ∨ t = "bool" ∨ t = "int" ∨ t = "str" ∨ t = "tuple" ∨ t = "list" ∨ t = "dict" := by
    cases x <;> simp only [tyName, Option.some.injEq] at ht <;> first | (subst ht; simp) | cases ht
  refine kit_ty ?_
  unfold isaT at h
  split at h
  · rename_i hb
    cases h
    rcases ha with rfl | rfl | rfl | rfl | rfl | rfl | rfl <;> rcases hb with rfl | rfl | rfl | rfl | rfl | rfl <;> decide +kernel
  · cases h
section
variable {X : Cx} {cl : Nat → Addr}
theorem cv_len : CallV X.K cl (fun xs H Q => ∃ x n, xs = [x] ∧ LenV X.K x H n ∧ Q (.int n) H) lenP := by
  intro W σ Hs H xs us w Q s r e q
  cases r with
  | nil => cases e
  | cons r t =>
    cases t with
    | cons _ _ => cases r <;> cases e
    | nil =>
      cases r with
      | str z =>
        replace e : (if z.length ≤ sizeLine then some (PV.int z.length) else none) = some w := e
        split at e
        · cases e; exact ⟨_, _, rfl, ⟨by assumption, rfl⟩, q.here s (.int _)⟩
        · cases e
      | lst h ra => cases e; exact ⟨_, _, rfl, .inl ⟨_, .of (s _ _ h), rfl⟩, by rw [ra.length]; exact q.here s (.int _)⟩
      | src h ra => cases e; exact ⟨_, _, rfl, .inl ⟨_, s.seqL h, rfl⟩, by rw [ra.length]; exact q.here s (.int _)⟩
      | tup h ra => cases e; exact ⟨_, _, rfl, .inr ⟨_, s.seqT h, rfl⟩, by rw [ra.length]; exact q.here s (.int _)⟩
      | _ => cases e
theorem cv_abs : CallV X.K cl (fun xs H Q => ∃ i, xs = [V.int i] ∧ Q (.int (if i < 0 then -i else i)) H) absP := by
  intro W σ Hs H xs us w Q s r e q
  cases r with
  | nil => cases e
  | cons r t =>
    cases t with
    | cons _ _ => cases r <;> cases e
    | nil =>
      cases r with
      | int i => cases e; exact ⟨i, rfl, q.here s (.int _)⟩
      | _ => cases e
theorem cv_int : CallV X.K cl (fun xs H Q => (∃ i, xs = [V.int i] ∧ Q (.int i) H) ∨ ∃ k, xs = [V.bl k] ∧ Q (.int (if k then 1 else 0)) H) intP := by
  intro W σ Hs H xs us w Q s r e q
  cases r with
  | nil => cases e
  | cons r t =>
    cases t with
    | cons _ _ => cases r <;> cases e
    | nil =>
      cases r with
      | int i => cases e; exact .inl ⟨i, rfl, q.here s (.int _)⟩
      | bl i => cases e; exact .inr ⟨i, rfl, q.here s (.int _)⟩
      | _ => cases e
def rMin2 (K : PySem.W.Frag) : List V → Hp → VK → Prop := fun xs H Q => (∃ i j, xs = [V.int i, V.int j] ∧ Q (.int (if j < i then j else i)) H) ∨ rMin K xs H Q
def rMax2 (K : PySem.W.Frag) : List V → Hp → VK → Prop := fun xs H Q => (∃ i j, xs = [V.int i, V.int j] ∧ Q (.int (if j > i then j else i)) H) ∨ rMax K xs H Q
theorem cr_min2 (hc : X.calm = true) : CallR X (.builtin "min") (rMin2 X.K) := (call_min2 hc).or (cr_min hc)
theorem cr_max2 (hc : X.calm = true) : CallR X (.builtin "max") (rMax2 X.K) := (call_max2 hc).or (cr_max hc)
theorem cv_min : CallV X.K cl (rMin2 X.K) minP := by
  intro W σ Hs H xs us w Q s r e q
  cases r with
  | nil => cases e
  | cons r t =>
    cases t with
    | cons r2 t2 =>
      cases t2 with
      | cons _ _ => cases r <;> cases r2 <;> cases e
      | nil =>
        cases r with
        | int i =>
          cases r2 with
          | int j => cases e; exact .inl ⟨i, j, rfl, q.here s (.int _)⟩
          | _ => cases e
        | _ => cases r2 <;> cases e
    | nil =>
      cases r with
      | @lst a vs xs h ra =>
        replace e : ((intsP xs).bind fun ns => if ns = [] then none else some (PV.int (minL ns))) = some w := e
        rw [Option.bind_eq_some_iff] at e
        obtain ⟨ns, e1, e⟩ := e
        split at e
        · cases e
        · rename_i hn
          cases e
          have z := ra.ints e1
          subst z
          obtain ⟨m1, m2⟩ := minL_ok hn
          refine .inr ⟨_, ns, rfl, .of (s _ _ h), List.length_pos_iff.mpr hn, fun m h1 h2 => ?_⟩
          have em : m = minL ns := Int.le_antisymm (h2 _ m1) (m2 _ h1)
          rw [em]
          exact q.here s (.int _)
      | _ => cases e
theorem cv_max : CallV X.K cl (rMax2 X.K) maxP := by
  intro W σ Hs H xs us w Q s r e q
  cases r with
  | nil => cases e
  | cons r t =>
    cases t with
    | cons r2 t2 =>
      cases t2 with
      | cons _ _ => cases r <;> cases r2 <;> cases e
      | nil =>
        cases r with
        | int i =>
          cases r2 with
          | int j => cases e; exact .inl ⟨i, j, rfl, q.here s (.int _)⟩
          | _ => cases e
        | _ => cases r2 <;> cases e
    | nil =>
      cases r with
      | @lst a vs xs h ra =>
        replace e : ((intsP xs).bind fun ns => if ns = [] then none else some (PV.int (maxL ns))) = some w := e
        rw [Option.bind_eq_some_iff] at e
        obtain ⟨ns, e1, e⟩ := e
        split at e
        · cases e
        · rename_i hn
          cases e
          have z := ra.ints e1
          subst z
          obtain ⟨m1, m2⟩ := maxL_ok hn
          refine .inr ⟨_, ns, rfl, .of (s _ _ h), List.length_pos_iff.mpr hn, fun m h1 h2 => ?_⟩
          have em : m = maxL ns := Int.le_antisymm (m2 _ h1) (h2 _ m1)
          rw [em]
          exact q.here s (.int _)
      | _ => cases e
theorem cv_sum : CallV X.K cl (rSum X.K) sumP := by
  intro W σ Hs H xs us w Q s r e q
  cases r with
  | nil => cases e
  | cons r t =>
    cases t with
    | cons _ _ => cases r <;> cases e
    | nil =>
      cases r with
      | @lst a vs xs h ra =>
        replace e : ((intsP xs).map fun ns => PV.int ns.sum) = some w := e
        rw [Option.map_eq_some_iff] at e
        obtain ⟨ns, e1, rfl⟩ := e
        have z := ra.ints e1
        subst z
        exact ⟨_, ns, rfl, .of (s _ _ h), q.here s (.int _)⟩
      | _ => cases e
theorem rpa_ints {K : PySem.W.Frag} {H : Hp} : ∀ ns : List Int, RpA K cl H (ns.map V.int) (ns.map PV.int)
  | [] => .nil
  | n :: r => .cons (.int n) (rpa_ints r)
theorem cv_sort : CallV X.K cl (rSortedI X.K) sortP := by
  intro W σ Hs H xs us w Q s r e q
  cases r with
  | nil => cases e
  | cons r t =>
    cases t with
    | cons _ _ => cases r <;> cases e
    | nil =>
      cases r with
      | @lst a vs xs h ra =>
        replace e : ((intsP xs).map fun ns => PV.lst ((sortI ns).map .int)) = some w := e
        rw [Option.map_eq_some_iff] at e
        obtain ⟨ns, e1, rfl⟩ := e
        have z := ra.ints e1
        subst z
        refine ⟨_, ns, rfl, .of (s _ _ h), fun ns' p h1 h2 n => ?_⟩
        obtain ⟨g1, g2⟩ := sortI_ok ns
        have ee : ns' = sortI ns := PySem.W.ksm_same (h1.trans g1.symm) h2 g2
        rw [ee]
        exact new_lst q s n (rpa_ints _)
      | _ => cases e
theorem cv_list : CallV X.K cl (fun xs H Q => ∃ p ys, xs = [V.ref p] ∧ (SqL X.K H p ys ∨ SqT X.K H p ys) ∧ ∀ l, H l = none → Q (.ref l) (upd H l (.lst ys))) listP := by
  intro W σ Hs H xs us w Q s r e q
  cases r with
  | nil => cases e
  | cons r t =>
    cases t with
    | cons _ _ => cases r <;> cases e
    | nil =>
      cases r with
      | lst h ra => cases e; exact ⟨_, _, rfl, .inl (.of (s _ _ h)), fun l n => new_lst q s n ra⟩
      | src h ra => cases e; exact ⟨_, _, rfl, .inl (s.seqL h), fun l n => new_lst q s n ra⟩
      | tup h ra => cases e; exact ⟨_, _, rfl, .inr (s.seqT h), fun l n => new_lst q s n ra⟩
      | _ => cases e
theorem cv_tuple : CallV X.K cl (fun xs H Q => ∃ p ys, xs = [V.ref p] ∧ ((SqL X.K H p ys ∧ ∀ l, H l = none → Q (.ref l) (upd H l (.tup ys))) ∨ (SqT X.K H p ys ∧ Q (.ref p) H))) tupleP := by
  intro W σ Hs H xs us w Q s r e q
  cases r with
  | nil => cases e
  | cons r t =>
    cases t with
    | cons _ _ => cases r <;> cases e
    | nil =>
      cases r with
      | lst h ra => cases e; exact ⟨_, _, rfl, .inl ⟨.of (s _ _ h), fun l n => new_tup q s n ra⟩⟩
      | tup h ra => cases e; exact ⟨_, _, rfl, .inr ⟨s.seqT h, q.here s (.tup h ra)⟩⟩
      | _ => cases e
theorem cv_str : CallV X.K cl (fun xs H Q => ∃ i, xs = [V.int i] ∧ i.natAbs.log2 < 1920 ∧ Q (.str (toString i)) H) strP := by
  intro W σ Hs H xs us w Q s r e q
  cases r with
  | nil => cases e
  | cons r t =>
    cases t with
    | cons _ _ => cases r <;> cases e
    | nil =>
      cases r with
      | int i =>
        replace e : (if -(2 ^ 1000) < i ∧ i < 2 ^ 1000 then some (PV.str (toString i)) else none) = some w := e
        split at e
        · rename_i hk
          cases e
          refine ⟨i, rfl, Nat.lt_of_lt_of_le (PySem.Flt.log2_lt_of (k := 1000) (by decide) ?_) (by decide), q.here s (.str _)⟩
          have h1 : (i.natAbs : Int) < ((2 ^ 1000 : Nat) : Int) := by
            rw [Int.natCast_pow]
            have h2 : ((2 : Nat) : Int) ^ 1000 = 2 ^ 1000 := rfl
            rw [h2]
            generalize (2 : Int) ^ 1000 = z at hk
            omega
          exact Int.ofNat_lt.mp h1
        · cases e
      | _ => cases e
theorem tyX_of {Hs H : Hp} {x : V} {u : PV} {t : String} (s : Sub Hs H) (r : Rp X.K cl Hs x u) (e : tyName u = some t) : TyX X.K H x (.type t) := by
  cases r with
  | non => cases e; exact .base .non
  | bl b => cases e; exact .base (.bl b)
  | int b => cases e; exact .base (.int b)
  | str b => cases e; exact .base (.str b)
  | tup h ra =>
    cases e
    rcases s.seqT h with (h | ⟨o, h⟩) | ⟨o, its, n, h1, h2, _⟩
    · exact .base (.tup h)
    · exact .fTuple h
    · exact .kTuple h1 h2
  | lst h ra => cases e; exact .base (.lst (s _ _ h))
  | src h ra =>
    cases e
    rcases s.seqL h with (h | ⟨o, h⟩) | ⟨o, its, n, h1, h2, _⟩
    · exact .base (.lst h)
    · exact .base (.frz h)
    · exact .kList h1 h2
  | dct h ra => cases e; exact .base (.dK (s _ _ h))
  | obj h ra => cases e
  | ty n => cases e
theorem cv_isa : CallV X.K cl (rIsi X.K) isaP := by
  intro W σ Hs H xs us w Q s r e q
  cases r with
  | nil => cases e
  | @cons _ _ u _ r t =>
    cases t with
    | nil => cases e
    | cons r2 t2 =>
      cases t2 with
      | cons _ _ => cases r2 <;> cases e
      | nil =>
        cases r2 with
        | ty n =>
          replace e : ((tyName u).bind fun t => (isaT t n).map PV.bl) = some w := e
          rw [Option.bind_eq_some_iff] at e
          obtain ⟨t, e1, e⟩ := e
          rw [Option.map_eq_some_iff] at e
          obtain ⟨b, e2, rfl⟩ := e
          exact ⟨_, _, _, _, b, rfl, .ty n, tyX_of s r e1, isaT_ok e1 e2, q.here s (.bl b)⟩
        | _ => cases e
theorem ve_ty {W : WX} {x : Str} {n : String} {pos : Pos} (hm : X.mg x = none) (hv : bootBuiltins x = some (.type n)) (hg : Gl X x := by rfl) (hn : x ≠ "__name__" := by decide) (hd : (x == ("__debug__" : Str)) = false := by decide) : PE X (.Name x pos) (tv X.K cl W (eC (.ty n))) :=
  ve_c (pe_bltn (v := .ty n) hg hm hv rfl hn hd) fun _ => .ty n
end
end VL
namespace VL
open PySem PySem.Spec PyProof.Rows L2
/-! ### a def's slots: nothing, a value that stays as it is, a list of the def's own -/
inductive Sl where
  | no | fz (v : PV) | own (xs : List PV)
abbrev Env := List Sl
inductive Out where
  | next (ρ : Env) | brk (ρ : Env) | cont (ρ : Env) | ret (v : PV) | exc (c : Nat) (fs : List (Str × PV)) (ρ : Env) | stuck
/-- what an expression sees that names the slots of bs -/
def vw : List Bool → Env → Ev
  | _, [] => []
  | bs, .no :: ρ => none :: vw bs.tail ρ
  | bs, .fz v :: ρ => some v :: vw bs.tail ρ
  | bs, .own xs :: ρ => (if bs.headD false = true then some (.lst xs) else none) :: vw bs.tail ρ
/-- the own lists among bs stay as they are from now on -/
def fr : List Bool → Env → Env
  | _, [] => []
  | bs, .no :: ρ => .no :: fr bs.tail ρ
  | bs, .fz v :: ρ => .fz v :: fr bs.tail ρ
  | bs, .own xs :: ρ => (if bs.headD false = true then .fz (.lst xs) else .own xs) :: fr bs.tail ρ
mutual
/-- no list within -/
def PV.nol : PV → Bool
  | .non => true | .bl _ => true | .int _ => true | .str _ => true | .ty _ => true
  | .tup xs => PV.nols xs
  | .lst _ => false | .src _ => false | .dct _ => false | .obj _ _ => false
def PV.nols : List PV → Bool
  | [] => true
  | x :: xs => PV.nol x && PV.nols xs
end
def settle (bs : List Bool) (b : Bool) (ρ : Env) : Env := if b = true then ρ else fr bs ρ

section
variable (K : PySem.W.Frag) (cl : Nat → Addr) (He H0 : Hp)
structure SEnv (Hs H : Hp) (σ : St) (ρ : Env) : Prop where
  ext : Ext He H0 Hs H
  len : σ.length = ρ.length
  fz : ∀ (i : Nat) (v : PV), ρ[i]? = some (.fz v) → ∃ x, σ[i]? = some (some x) ∧ Rp K cl Hs x v
  own : ∀ (i : Nat) (xs : List PV), ρ[i]? = some (.own xs) → ∃ a vs, σ[i]? = some (some (.ref a)) ∧ H a = some (.lst vs) ∧ RpA K cl Hs vs xs ∧ Hs a = none ∧ H0 a = none
  inj : ∀ (i j : Nat) (xs ys : List PV) (a : Addr), ρ[i]? = some (.own xs) → ρ[j]? = some (.own ys) → σ[i]? = some (some (.ref a)) → σ[j]? = some (some (.ref a)) → i = j
variable (W : WX)
def Post (Hs : Hp) (D : Ends) : Out → Prop
  | .next ρ => ∀ σ Hs' H', Sub Hs Hs' → SEnv K cl He H0 Hs' H' σ ρ → D.nx σ H'
  | .brk ρ => ∀ σ Hs' H', Sub Hs Hs' → SEnv K cl He H0 Hs' H' σ ρ → D.bk σ H'
  | .cont ρ => ∀ σ Hs' H', Sub Hs Hs' → SEnv K cl He H0 Hs' H' σ ρ → D.ct σ H'
  | .ret v => ∀ x Hs' H', Ext He H0 Hs' H' → Rp K cl Hs' x v → D.rt x H'
  | .exc c fs ρ => ∀ σ Hs' H' d fvs, Sub Hs Hs' → SEnv K cl He H0 Hs' H' σ ρ → Hs' d = some (.xd fvs) → RpF K cl Hs' fvs fs → W (.ref (cl c)) (some d) σ H'
  | .stuck => False
def ts (s : Env → Out) : TS := fun D σ H => ∃ Hs ρ, SEnv K cl He H0 Hs H σ ρ ∧ Post K cl He H0 W Hs D (s ρ)
end

section
variable {K : PySem.W.Frag} {cl : Nat → Addr} {He H0 : Hp} {W : WX} {Hs Hs1 H H1 : Hp} {σ : St} {ρ : Env} {D : Ends} {o : Out}
theorem Post.up (h : Post K cl He H0 W Hs D o) (s : Sub Hs Hs1) : Post K cl He H0 W Hs1 D o := by
  cases o with
  | next ρ => exact fun σ Hs' H' t => h σ Hs' H' (s.trans t)
  | brk ρ => exact fun σ Hs' H' t => h σ Hs' H' (s.trans t)
  | cont ρ => exact fun σ Hs' H' t => h σ Hs' H' (s.trans t)
  | ret v => exact h
  | exc c fs ρ => exact fun σ Hs' H' d fvs t => h σ Hs' H' d fvs (s.trans t)
  | stuck => exact h
theorem SEnv.sub (S : SEnv K cl He H0 Hs H σ ρ) : Sub Hs H := S.ext.sub

/-! the slots that are seen -/
theorem vw_fz : ∀ {bs : List Bool} {ρ : Env} {i : Nat} {v : PV}, (vw bs ρ)[i]? = some (some v) → ρ[i]? = some (.fz v) ∨ ∃ xs, ρ[i]? = some (.own xs) ∧ bs[i]? = some true ∧ v = .lst xs
  | bs, [], i, v, h => by simp [vw] at h
  | bs, .no :: ρ, 0, v, h => by simp [vw] at h
  | bs, .fz u :: ρ, 0, v, h => by simp [vw] at h; subst h; exact .inl rfl
  | [], .own xs :: ρ, 0, v, h => by simp [vw] at h
  | b :: bs, .own xs :: ρ, 0, v, h => by
    cases b with
    | true => simp [vw] at h; subst h; exact .inr ⟨xs, rfl, rfl, rfl⟩
    | false => simp [vw] at h
  | bs, s :: ρ, i + 1, v, h => by
    have h' : (vw bs.tail ρ)[i]? = some (some v) := by cases s <;> simpa [vw] using h
    rcases vw_fz h' with e | ⟨xs, e1, e2, e3⟩
    · exact .inl (by simpa using e)
    · refine .inr ⟨xs, by simpa using e1, ?_, e3⟩
      cases bs with
      | nil => simp at e2
      | cons b bs => simpa using e2
theorem vw_len : ∀ (bs : List Bool) (ρ : Env), (vw bs ρ).length = ρ.length
  | _, [] => rfl
  | bs, .no :: ρ => by simp [vw, vw_len]
  | bs, .fz v :: ρ => by simp [vw, vw_len]
  | bs, .own v :: ρ => by simp [vw, vw_len]
theorem fr_len : ∀ (bs : List Bool) (ρ : Env), (fr bs ρ).length = ρ.length
  | _, [] => rfl
  | bs, .no :: ρ => by simp [fr, fr_len]
  | bs, .fz v :: ρ => by simp [fr, fr_len]
  | bs, .own v :: ρ => by simp [fr, fr_len]
theorem fr_own : ∀ {bs : List Bool} {ρ : Env} {i : Nat} {xs : List PV}, (fr bs ρ)[i]? = some (.own xs) → ρ[i]? = some (.own xs) ∧ bs[i]? ≠ some true
  | bs, [], i, v, h => by simp [fr] at h
  | bs, .no :: ρ, 0, v, h => by simp [fr] at h
  | bs, .fz u :: ρ, 0, v, h => by simp [fr] at h
  | [], .own xs :: ρ, 0, v, h => by simp [fr] at h; subst h; exact ⟨rfl, by simp⟩
  | b :: bs, .own xs :: ρ, 0, v, h => by
    cases b with
    | true => simp [fr] at h
    | false => simp [fr] at h; subst h; exact ⟨rfl, by simp⟩
  | bs, s :: ρ, i + 1, v, h => by
    have h' : (fr bs.tail ρ)[i]? = some (.own v) := by cases s <;> simpa [fr] using h
    obtain ⟨e1, e2⟩ := fr_own h'
    refine ⟨by simpa using e1, fun z => e2 ?_⟩
    cases bs with
    | nil => simp at z
    | cons b bs => simpa using z
theorem fr_fz : ∀ {bs : List Bool} {ρ : Env} {i : Nat} {v : PV}, (fr bs ρ)[i]? = some (.fz v) → ρ[i]? = some (.fz v) ∨ ∃ xs, ρ[i]? = some (.own xs) ∧ bs[i]? = some true ∧ v = .lst xs
  | bs, [], i, v, h => by simp [fr] at h
  | bs, .no :: ρ, 0, v, h => by simp [fr] at h
  | bs, .fz u :: ρ, 0, v, h => by simp [fr] at h; subst h; exact .inl rfl
  | [], .own xs :: ρ, 0, v, h => by simp [fr] at h
  | b :: bs, .own xs :: ρ, 0, v, h => by
    cases b with
    | true => simp [fr] at h; subst h; exact .inr ⟨xs, rfl, rfl, rfl⟩
    | false => simp [fr] at h
  | bs, s :: ρ, i + 1, v, h => by
    have h' : (fr bs.tail ρ)[i]? = some (.fz v) := by cases s <;> simpa [fr] using h
    rcases fr_fz h' with e | ⟨xs, e1, e2, e3⟩
    · exact .inl (by simpa using e)
    · refine .inr ⟨xs, by simpa using e1, ?_, e3⟩
      cases bs with
      | nil => simp at e2
      | cons b bs => simpa using e2

/-! the own lists that are seen stand as if they stayed -/
def isOwn (bs : List Bool) (ρ : Env) (σ : St) (a : Addr) : Prop := ∃ (i : Nat) (xs : List PV), bs[i]? = some true ∧ ρ[i]? = some (Sl.own xs) ∧ σ[i]? = some (some (V.ref a))
open Classical in
noncomputable def plus (P : Addr → Prop) (Hs H : Hp) : Hp := fun a => if P a then H a else Hs a
open Classical in
noncomputable def cut (P : Addr → Prop) (Hs : Hp) : Hp := fun a => if P a then none else Hs a
theorem plus_yes {P : Addr → Prop} {a : Addr} (h : P a) : plus P Hs H a = H a := if_pos h
theorem plus_no {P : Addr → Prop} {a : Addr} (h : ¬ P a) : plus P Hs H a = Hs a := if_neg h
theorem cut_yes {P : Addr → Prop} {a : Addr} (h : P a) : cut P Hs a = none := if_pos h
theorem cut_no {P : Addr → Prop} {a : Addr} (h : ¬ P a) : cut P Hs a = Hs a := if_neg h
theorem SEnv.ownAt (S : SEnv K cl He H0 Hs H σ ρ) {bs : List Bool} {a : Addr} (h : isOwn bs ρ σ a) : (∃ vs, H a = some (.lst vs)) ∧ Hs a = none ∧ H0 a = none := by
  obtain ⟨i, xs, _, h1, h2⟩ := h
  obtain ⟨b, vs, e1, e2, _, e3, e4⟩ := S.own i xs h1
  rw [h2] at e1
  cases e1
  exact ⟨⟨vs, e2⟩, e3, e4⟩
theorem SEnv.plusExt (S : SEnv K cl He H0 Hs H σ ρ) (bs : List Bool) : Sub Hs (plus (isOwn bs ρ σ) Hs H) ∧ Sub (plus (isOwn bs ρ σ) Hs H) H ∧ ∀ a, H0 a ≠ none → He a = none → plus (isOwn bs ρ σ) Hs H a = none := by
  refine ⟨fun a o h => ?_, fun a o h => ?_, fun a h n => ?_⟩
  · by_cases p : isOwn bs ρ σ a
    · rw [(S.ownAt p).2.1] at h; cases h
    · rw [plus_no p]; exact h
  · by_cases p : isOwn bs ρ σ a
    · rw [plus_yes p] at h; exact h
    · rw [plus_no p] at h; exact S.sub a o h
  · by_cases p : isOwn bs ρ σ a
    · exact absurd (S.ownAt p).2.2 h
    · rw [plus_no p]; exact S.ext.nw a h n
theorem SEnv.pe (S : SEnv K cl He H0 Hs H σ ρ) (bs : List Bool) : PEnv K cl (plus (isOwn bs ρ σ) Hs H) H σ (vw bs ρ) := by
  obtain ⟨s1, s2, _⟩ := S.plusExt bs
  refine ⟨s2, by rw [vw_len, S.len], fun i v h => ?_⟩
  rcases vw_fz h with e | ⟨xs, e1, e2, rfl⟩
  · obtain ⟨x, e3, r⟩ := S.fz i v e
    exact ⟨x, e3, r.mono s1⟩
  · obtain ⟨a, vs, e3, e4, r, _, _⟩ := S.own i xs e1
    refine ⟨.ref a, e3, .lst ?_ (r.mono s1)⟩
    rw [plus_yes ⟨i, xs, e2, e1, e3⟩]
    exact e4
/-- behind an expression: what was seen stays -/
theorem SEnv.froze (S : SEnv K cl He H0 Hs H σ ρ) {bs : List Bool} (x : Ext (plus (isOwn bs ρ σ) Hs H) H Hs1 H1) : SEnv K cl He H0 Hs1 H1 σ (fr bs ρ) := by
  obtain ⟨s1, s2, s3⟩ := S.plusExt bs
  refine ⟨Ext.trans ⟨S.ext.fs.trans s1, s2, S.ext.same, s3⟩ x, by rw [fr_len]; exact S.len, fun i v h => ?_, fun i xs h => ?_, fun i j xs ys a h1 h2 => S.inj i j xs ys a (fr_own h1).1 (fr_own h2).1⟩
  · rcases fr_fz h with e | ⟨xs, e1, e2, rfl⟩
    · obtain ⟨y, e3, r⟩ := S.fz i v e
      exact ⟨y, e3, (r.mono s1).mono x.fs⟩
    · obtain ⟨a, vs, e3, e4, r, _, _⟩ := S.own i xs e1
      refine ⟨.ref a, e3, .lst (x.fs _ _ ?_) ((r.mono s1).mono x.fs)⟩
      rw [plus_yes ⟨i, xs, e2, e1, e3⟩]
      exact e4
  · obtain ⟨h1, h2⟩ := fr_own h
    obtain ⟨a, vs, e3, e4, r, e5, e6⟩ := S.own i xs h1
    refine ⟨a, vs, e3, x.same _ _ e4, (r.mono s1).mono x.fs, x.nw a (by rw [e4]; simp) ?_, e6⟩
    rw [plus_no]
    · exact e5
    · rintro ⟨j, ys, g1, g2, g3⟩
      have := S.inj j i ys xs a g2 h1 g3 e3
      subst this
      exact h2 g1
/-- .. or is the def's own again -/
theorem SEnv.back (S : SEnv K cl He H0 Hs H σ ρ) {bs : List Bool} (x : Ext (plus (isOwn bs ρ σ) Hs H) H Hs1 H1) : SEnv K cl He H0 (cut (isOwn bs ρ σ) Hs1) H1 σ ρ ∧ Sub Hs (cut (isOwn bs ρ σ) Hs1) := by
  obtain ⟨s1, s2, s3⟩ := S.plusExt bs
  have up : Sub Hs (cut (isOwn bs ρ σ) Hs1) := fun a o h => by
    rw [cut_no]
    · exact x.fs _ _ (s1 a o h)
    · intro p
      rw [(S.ownAt p).2.1] at h; cases h
  refine ⟨⟨⟨S.ext.fs.trans up, fun a o h => ?_, S.ext.same.trans x.same, fun a h n => ?_⟩, S.len, fun i v h => ?_, fun i xs h => ?_, S.inj⟩, up⟩
  · by_cases p : isOwn bs ρ σ a
    · rw [cut_yes p] at h; cases h
    · rw [cut_no p] at h; exact x.sub a o h
  · by_cases p : isOwn bs ρ σ a
    · exact cut_yes p
    · rw [cut_no p]
      refine x.nw a (fun z => ?_) (s3 a h n)
      cases q : H0 a with
      | none => exact h q
      | some o => rw [S.ext.same a o q] at z; cases z
  · obtain ⟨y, e3, r⟩ := S.fz i v h
    exact ⟨y, e3, r.mono up⟩
  · obtain ⟨a, vs, e3, e4, r, e5, e6⟩ := S.own i xs h
    refine ⟨a, vs, e3, x.same _ _ e4, r.mono up, ?_, e6⟩
    by_cases p : isOwn bs ρ σ a
    · exact cut_yes p
    · rw [cut_no p]
      exact x.nw a (by rw [e4]; simp) (by rw [plus_no p]; exact e5)
/-- a value without a list leans on no list -/
structure NoL (P : Addr → Prop) (Hs : Hp) : Prop where
  l : ∀ a, P a → ∃ vs, Hs a = some (HO.lst vs)
theorem NoL.tup {P : Addr → Prop} (n : NoL P Hs) {a : Addr} {vs : List V} (h : SqT K Hs a vs) : SqT K (cut P Hs) a vs := by
  rcases h with (h | ⟨o, h⟩) | h
  · refine .inl (.inl ?_)
    rw [cut_no]
    · exact h
    · intro p
      obtain ⟨ws, e⟩ := n.l a p
      rw [h] at e; cases e
  · refine .inl (.inr ⟨o, ?_⟩)
    rw [cut_no]
    · exact h
    · intro p
      obtain ⟨ws, e⟩ := n.l a p
      rw [h] at e; cases e
  · exact .inr h
mutual
theorem Rp.nolist {P : Addr → Prop} (n : NoL P Hs) : ∀ {v : V} {x : PV}, Rp K cl Hs v x → x.nol = true → Rp K cl (cut P Hs) v x
  | _, _, .non, _ => .non
  | _, _, .bl b, _ => .bl b
  | _, _, .int b, _ => .int b
  | _, _, .str b, _ => .str b
  | _, _, .ty b, _ => .ty b
  | _, _, .tup h r, e => .tup (n.tup h) (r.nolist n (by simpa [PV.nol] using e))
  | _, _, .lst h r, e => by simp [PV.nol] at e
  | _, _, .src h r, e => by simp [PV.nol] at e
  | _, _, .dct h r, e => by simp [PV.nol] at e
  | _, _, .obj h r, e => by simp [PV.nol] at e
theorem RpA.nolist {P : Addr → Prop} (n : NoL P Hs) : ∀ {v : List V} {x : List PV}, RpA K cl Hs v x → PV.nols x = true → RpA K cl (cut P Hs) v x
  | _, _, .nil, _ => .nil
  | _, _, .cons h r, e => by
    simp only [PV.nols, Bool.and_eq_true] at e
    exact .cons (h.nolist n e.1) (r.nolist n e.2)
end
/-- a way of bearing that goes with a test «no list» -/
structure Bears (K : PySem.W.Frag) (cl : Nat → Addr) {α β : Type} (rel : Hp → β → α → Prop) (nl : α → Bool) : Prop where
  cut : ∀ {P : Addr → Prop} {Hs : Hp} {x : β} {v : α}, NoL P Hs → rel Hs x v → nl v = true → rel (cut P Hs) x v
theorem bears_v : Bears K cl (Rp K cl) PV.nol := ⟨fun n r e => r.nolist n e⟩
theorem bears_a : Bears K cl (RpA K cl) PV.nols := ⟨fun n r e => r.nolist n e⟩
theorem bears_b : Bears K cl (fun _ b c => b = (c : Bool)) (fun _ => true) := ⟨fun _ r _ => r⟩
/-- an expression within a statement -/
def onE {α : Type} (nl : α → Bool) (f : Ev → R α) (bs : List Bool) (ρ : Env) (k : α → Env → Out) : Out := match f (vw bs ρ) with
  | .ok v => k v (settle bs (nl v) ρ)
  | .exc c fs => .exc c fs (fr bs ρ)
  | .stuck => .stuck
theorem onE_use {α β : Type} {rel : Hp → β → α → Prop} {nl : α → Bool} (B : Bears K cl rel nl) {f : Ev → R α} {bs : List Bool} {k : α → Env → Out} {Q : β → Hp → Prop} (S : SEnv K cl He H0 Hs H σ ρ) (h : Post K cl He H0 W Hs D (onE nl f bs ρ k))
    (hk : ∀ v x Hs1 H1 ρ1, Sub Hs Hs1 → SEnv K cl He H0 Hs1 H1 σ ρ1 → rel Hs1 x v → f (vw bs ρ) = .ok v → ρ1 = settle bs (nl v) ρ → Sub H H1 → Post K cl He H0 W Hs1 D (k v ρ1) → Q x H1) : gv K cl rel W f σ H Q := by
  refine ⟨_, _, S.pe bs, ?_⟩
  unfold onE at h
  have s1 := (S.plusExt bs).1
  cases e : f (vw bs ρ) with
  | ok v =>
    rw [e] at h
    replace h : Post K cl He H0 W Hs D (k v (settle bs (nl v) ρ)) := h
    intro x Hs1 H1 X r
    cases en : nl v with
    | false =>
      have es : settle bs (nl v) ρ = fr bs ρ := by unfold settle; rw [en]; rfl
      have up := s1.trans X.fs
      exact hk v x Hs1 H1 _ up (by rw [es]; exact S.froze X) r e rfl X.same (Post.up h up)
    | true =>
      have es : settle bs (nl v) ρ = ρ := by unfold settle; rw [en]; rfl
      obtain ⟨S1, up⟩ := S.back X
      refine hk v x _ H1 _ up (by rw [es]; exact S1) (B.cut ⟨fun a p => ?_⟩ r en) e rfl X.same (Post.up h up)
      obtain ⟨vs, e1⟩ := (S.ownAt p).1
      exact ⟨vs, X.fs _ _ (by rw [plus_yes p]; exact e1)⟩
  | exc c fs =>
    rw [e] at h
    intro d fvs Hs1 H1 X e1 r
    exact h σ Hs1 H1 d fvs (s1.trans X.fs) (S.froze X) e1 r
  | stuck => rw [e] at h; exact h

/-! changes of the slots -/
theorem SEnv.set (S : SEnv K cl He H0 Hs H σ ρ) {x : V} {v : PV} (r : Rp K cl Hs x v) (i : Nat) : SEnv K cl He H0 Hs H (σ.set i (some x)) (ρ.set i (.fz v)) := by
  have get : ∀ {j : Nat} {s : Sl}, (ρ.set i (.fz v))[j]? = some s → (j = i ∧ s = .fz v ∧ i < σ.length) ∨ (j ≠ i ∧ ρ[j]? = some s) := fun {j s} h => by
    by_cases e : i = j
    · subst e
      by_cases hl : i < ρ.length
      · rw [List.getElem?_set_self hl] at h
        cases h
        exact .inl ⟨rfl, rfl, by rw [S.len]; exact hl⟩
      · rw [List.getElem?_eq_none (by simpa using hl)] at h; cases h
    · rw [List.getElem?_set_ne e] at h
      exact .inr ⟨Ne.symm e, h⟩
  refine ⟨S.ext, by simpa using S.len, fun j u h => ?_, fun j xs h => ?_, fun j k xs ys a h1 h2 g1 g2 => ?_⟩
  · rcases get h with ⟨e1, e2, hl⟩ | ⟨e1, h⟩
    · cases e2; subst e1
      exact ⟨x, List.getElem?_set_self hl, r⟩
    · rw [List.getElem?_set_ne (Ne.symm e1)]
      exact S.fz j u h
  · rcases get h with ⟨_, e2, _⟩ | ⟨e1, h⟩
    · cases e2
    · rw [List.getElem?_set_ne (Ne.symm e1)]
      exact S.own j xs h
  · rcases get h1 with ⟨_, e2, _⟩ | ⟨e1, h1⟩
    · cases e2
    · rcases get h2 with ⟨_, e2, _⟩ | ⟨e2, h2⟩
      · cases e2
      · rw [List.getElem?_set_ne (Ne.symm e1)] at g1
        rw [List.getElem?_set_ne (Ne.symm e2)] at g2
        exact S.inj j k xs ys a h1 h2 g1 g2
theorem SEnv.setOwn (S : SEnv K cl He H0 Hs H σ ρ) {a : Addr} {vs : List V} {xs : List PV} (e : H a = some (.lst vs)) (r : RpA K cl Hs vs xs) (n1 : Hs a = none) (n2 : H0 a = none)
    (new : ∀ (j : Nat) (ys : List PV), ρ[j]? = some (Sl.own ys) → σ[j]? ≠ some (some (V.ref a))) (i : Nat) : SEnv K cl He H0 Hs H (σ.set i (some (.ref a))) (ρ.set i (.own xs)) := by
  have get : ∀ {j : Nat} {s : Sl}, (ρ.set i (.own xs))[j]? = some s → (j = i ∧ s = .own xs ∧ i < σ.length) ∨ (j ≠ i ∧ ρ[j]? = some s) := fun {j s} h => by
    by_cases e : i = j
    · subst e
      by_cases hl : i < ρ.length
      · rw [List.getElem?_set_self hl] at h
        cases h
        exact .inl ⟨rfl, rfl, by rw [S.len]; exact hl⟩
      · rw [List.getElem?_eq_none (by simpa using hl)] at h; cases h
    · rw [List.getElem?_set_ne e] at h
      exact .inr ⟨Ne.symm e, h⟩
  refine ⟨S.ext, by simpa using S.len, fun j u h => ?_, fun j ys h => ?_, fun j k ys zs b h1 h2 g1 g2 => ?_⟩
  · rcases get h with ⟨_, e2, _⟩ | ⟨e1, h⟩
    · cases e2
    · rw [List.getElem?_set_ne (Ne.symm e1)]
      exact S.fz j u h
  · rcases get h with ⟨e1, e2, hl⟩ | ⟨e1, h⟩
    · cases e2; subst e1
      exact ⟨a, vs, List.getElem?_set_self hl, e, r, n1, n2⟩
    · rw [List.getElem?_set_ne (Ne.symm e1)]
      exact S.own j ys h
  · rcases get h1 with ⟨e1, _, hl⟩ | ⟨e1, k1⟩
    · rcases get h2 with ⟨e2, _, _⟩ | ⟨e2, k2⟩
      · rw [e1, e2]
      · rw [e1, List.getElem?_set_self hl] at g1
        rw [List.getElem?_set_ne (Ne.symm e2)] at g2
        cases g1
        exact absurd g2 (new k zs k2)
    · rcases get h2 with ⟨e2, _, hl⟩ | ⟨e2, k2⟩
      · rw [e2, List.getElem?_set_self hl] at g2
        rw [List.getElem?_set_ne (Ne.symm e1)] at g1
        cases g2
        exact absurd g1 (new j ys k1)
      · rw [List.getElem?_set_ne (Ne.symm e1)] at g1
        rw [List.getElem?_set_ne (Ne.symm e2)] at g2
        exact S.inj j k ys zs b k1 k2 g1 g2
/-- an own list is changed -/
theorem SEnv.put (S : SEnv K cl He H0 Hs H σ ρ) {i : Nat} {xs ys : List PV} {a : Addr} {ws : List V} (h : ρ[i]? = some (.own xs)) (hσ : σ[i]? = some (some (.ref a))) (r : RpA K cl Hs ws ys) :
    SEnv K cl He H0 Hs (upd H a (.lst ws)) σ (ρ.set i (.own ys)) := by
  obtain ⟨b, vs, e1, e2, _, e3, e4⟩ := S.own i xs h
  rw [hσ] at e1
  cases e1
  have hl : i < ρ.length := (List.getElem?_eq_some_iff.mp h).1
  have get : ∀ {j : Nat} {s : Sl}, (ρ.set i (.own ys))[j]? = some s → (j = i ∧ s = .own ys) ∨ (j ≠ i ∧ ρ[j]? = some s) := fun {j s} h => by
    by_cases e : i = j
    · subst e
      rw [List.getElem?_set_self hl] at h
      cases h
      exact .inl ⟨rfl, rfl⟩
    · rw [List.getElem?_set_ne e] at h
      exact .inr ⟨Ne.symm e, h⟩
  refine ⟨⟨S.ext.fs, S.sub.upd e3, S.ext.same.upd e4, S.ext.nw⟩, by simpa using S.len, fun j u h' => ?_, fun j zs h' => ?_, fun j k us zs c h1 h2 g1 g2 => ?_⟩
  · rcases get h' with ⟨_, e2⟩ | ⟨_, h'⟩
    · cases e2
    · exact S.fz j u h'
  · rcases get h' with ⟨e5, e6⟩ | ⟨e5, h'⟩
    · cases e6; subst e5
      exact ⟨a, ws, hσ, upd_same, r, e3, e4⟩
    · obtain ⟨c, us, g1, g2, g3, g4, g5⟩ := S.own j zs h'
      refine ⟨c, us, g1, ?_, g3, g4, g5⟩
      rw [upd_ne]
      · exact g2
      · rintro rfl
        exact e5 (S.inj j i zs xs c h' h g1 hσ)
  · rcases get h1 with ⟨e5, _⟩ | ⟨e5, k1⟩ <;> rcases get h2 with ⟨e6, _⟩ | ⟨e6, k2⟩
    · rw [e5, e6]
    · rw [e5] at g1 ⊢; exact S.inj i k xs zs c h k2 g1 g2
    · rw [e6] at g2 ⊢; exact S.inj j i us xs c k1 h g1 g2
    · exact S.inj j k us zs c k1 k2 g1 g2
end
end VL
namespace VL
open PySem PySem.Spec PyProof.Rows L2
/-! ### a list that was just made -/
section
variable (K : PySem.W.Frag) (cl : Nat → Addr) (W : WX)
def GO (Hs H : Hp) (σ : St) (r : R (List PV)) (Q : VK) : Prop := match r with
  | .ok xs => ∀ a vs Hs' H', Ext Hs H Hs' H' → H' a = some (.lst vs) → Hs' a = none → H a = none → RpA K cl Hs' vs xs → Q (.ref a) H'
  | .exc c fs => ∀ d fvs Hs' H', Ext Hs H Hs' H' → Hs' d = some (.xd fvs) → RpF K cl Hs' fvs fs → W (.ref (cl c)) (some d) σ H'
  | .stuck => False
def to (f : Ev → R (List PV)) : TE := fun σ H Q => ∃ Hs ρ, PEnv K cl Hs H σ ρ ∧ GO K cl W Hs H σ (f ρ) Q
end
section
variable {K : PySem.W.Frag} {cl : Nat → Addr} {W : WX} {Hs Hs1 H H1 : Hp} {σ : St} {ρ : Ev}
theorem GO.up {r : R (List PV)} {Q : VK} (h : GO K cl W Hs H σ r Q) (s : Ext Hs H Hs1 H1) : GO K cl W Hs1 H1 σ r Q := by
  cases r with
  | ok v => exact fun a vs Hs' H' t e n1 n2 => h a vs Hs' H' (s.trans t) e n1 (by
      cases q : H a with
      | none => rfl
      | some o => rw [s.same a o q] at n2; cases n2)
  | exc c fs => exact fun d fvs Hs' H' t => h d fvs Hs' H' (s.trans t)
  | stuck => exact h
theorem go_bind {α β : Type} {rel : Hp → β → α → Prop} {Q : β → Hp → Prop} {f : Ev → R α} {k : α → R (List PV)} {Q' : VK} (E : PEnv K cl Hs H σ ρ) (h : GO K cl W Hs H σ ((f ρ).bind k) Q')
    (hk : ∀ v x Hs1 H1, f ρ = .ok v → Ext Hs H Hs1 H1 → rel Hs1 x v → GO K cl W Hs1 H1 σ (k v) Q' → Q x H1) : gv K cl rel W f σ H Q := by
  refine ⟨Hs, ρ, E, ?_⟩
  cases e : f ρ with
  | ok v =>
    rw [e] at h
    exact fun x Hs1 H1 s1 rx => hk v x Hs1 H1 e s1 rx (GO.up h s1)
  | exc c fs => rw [e] at h; exact h
  | stuck => rw [e] at h; exact h
theorem own_lst {p : Addr} {vs : List V} {xs : List PV} {Q : VK} (h : GO K cl W Hs H σ (.ok xs) Q) (s : Sub Hs H) (n : H p = none) (r : RpA K cl Hs vs xs) : Q (.ref p) (upd H p (.lst vs)) :=
  h p vs Hs _ (Ext.newO s n) upd_same (s.none n) n r
end
def eLst1 (fs : List Ex) : Ev → R (List PV) := fun ρ => (evs fs ρ).bind fun xs => if xs.length ≤ sizeLine then .ok xs else .stuck
def asLst (f : Ev → R (List PV)) : Ex := fun ρ => (f ρ).bind fun xs => .ok (.lst xs)
def lstOf : Option PV → R (List PV)
  | some (.lst xs) => .ok xs
  | _ => .stuck
section
variable {X : Cx} {cl : Nat → Addr} {W : WX} {pos : Pos} {a b : Expr} {f f' : Ex}
theorem vo_lst {es : List Expr} {fs : List Ex} (h : PA X es (ta X.K cl W (evs fs))) : PE X (.List es pos) (to X.K cl W (eLst1 fs)) :=
  peWeak (pe_lst h) fun σ H Q ⟨Hs, ρ, E, h⟩ => by
    refine go_bind E h fun v x Hs1 H1 _ s1 rx h1 => ?_
    split at h1
    · exact ⟨by rw [rx.length]; assumption, fun p n => own_lst h1 s1.sub n rx⟩
    · exact h1.elim
/-- a list made by an operation -/
def eO2 (g : PV → PV → Option PV) (a b : Ex) : Ev → R (List PV) := fun ρ => (a ρ).bind fun x => (b ρ).bind fun y => lstOf (g x y)
theorem vo_add (ha : PE X a (tv X.K cl W f)) (hb : PE X b (tv X.K cl W f')) : PE X (.BinOp a .Add b pos) (to X.K cl W (eO2 addP f f')) :=
  peWeak (pe_op op_cat ha hb) fun σ H Q ⟨Hs, ρ, E, h⟩ => by
    refine go_bind E h fun v x Hs1 H1 _ s1 rx h1 => ?_
    refine go_bind (E.up s1) h1 fun u y Hs2 H2 _ t1 ry h2 => ?_
    have rx2 := rx.mono t1.fs
    cases rx2 with
    | @lst a vs xs h ra =>
      cases ry with
      | @lst b ws ys h' rb =>
        replace h2 : GO X.K cl W Hs2 H2 σ (lstOf (if xs.length + ys.length ≤ sizeLine then some (PV.lst (xs ++ ys)) else none)) Q := h2
        split at h2
        · exact ⟨_, _, _, _, rfl, rfl, t1.sub _ _ h, t1.sub _ _ h', by rw [ra.length, rb.length]; assumption, fun p n => own_lst h2 t1.sub n (ra.append rb)⟩
        · exact h2.elim
      | _ => exact h2.elim
    | int i =>
      cases ry with
      | _ => exact h2.elim
    | str i =>
      cases ry with
      | str j =>
        replace h2 : GO X.K cl W Hs2 H2 σ (lstOf (if i.length + j.length ≤ sizeLine then some (PV.str (i ++ j)) else none)) Q := h2
        split at h2 <;> exact h2.elim
      | _ => exact h2.elim
    | @tup a vs xs h ra =>
      cases ry with
      | @tup b ws ys h' rb =>
        replace h2 : GO X.K cl W Hs2 H2 σ (lstOf (if xs.length + ys.length ≤ sizeLine then some (PV.tup (xs ++ ys)) else none)) Q := h2
        split at h2 <;> exact h2.elim
      | _ => exact h2.elim
    | _ => cases ry <;> exact h2.elim
theorem vo_mul (ha : PE X a (tv X.K cl W f)) (hb : PE X b (tv X.K cl W f')) : PE X (.BinOp a .Mult b pos) (to X.K cl W (eO2 mulP f f')) :=
  peWeak (pe_op op_rep ha hb) fun σ H Q ⟨Hs, ρ, E, h⟩ => by
    refine go_bind E h fun v x Hs1 H1 _ s1 rx h1 => ?_
    refine go_bind (E.up s1) h1 fun u y Hs2 H2 _ t1 ry h2 => ?_
    have rx2 := rx.mono t1.fs
    cases rx2 with
    | @lst a vs xs h ra =>
      cases ry with
      | int k =>
        replace h2 : GO X.K cl W Hs2 H2 σ (lstOf (if -(2 ^ 63) ≤ k ∧ k < 2 ^ 63 ∧ xs.length * k.toNat ≤ sizeLine then some (PV.lst (List.replicate k.toNat xs).flatten) else none)) Q := h2
        split at h2
        · rename_i hk
          exact ⟨_, _, _, rfl, rfl, t1.sub _ _ h, hk.1, hk.2.1, by rw [ra.length]; exact hk.2.2, fun p n => own_lst h2 t1.sub n (ra.rep _)⟩
        · exact h2.elim
      | _ => exact h2.elim
    | int i =>
      cases ry with
      | int j =>
        replace h2 : GO X.K cl W Hs2 H2 σ (lstOf (if mulOk i j = true then some (PV.int (i * j)) else none)) Q := h2
        split at h2 <;> exact h2.elim
      | _ => exact h2.elim
    | _ => cases ry <;> exact h2.elim
def eOsl (a : Ex) (lo hi : Pt) : Ev → R (List PV) := fun ρ => (a ρ).bind fun x => (lo ρ).bind fun l => (hi ρ).bind fun h => match x with
  | .lst xs => .ok (cutP xs l h)
  | .src xs => .ok (cutP xs l h)
  | _ => .stuck
theorem vo_slice {e : Expr} {lo hi : Option Expr} {p2 : Pos} {l h : Pt} (ha : PE X e (tv X.K cl W f)) (hl : PO X lo (tpt X.K cl W l)) (hh : PO X hi (tpt X.K cl W h)) : PE X (.Subscript e (.Slice lo hi none p2) pos) (to X.K cl W (eOsl f l h)) :=
  peWeak (pe_slice sl_list ha hl hh) fun σ H Q ⟨Hs, ρ, E, h⟩ => by
    refine go_bind E h fun v x Hs1 H1 _ s1 rx h1 => ?_
    refine go_bind (E.up s1) h1 fun l1 l2 Hs2 H2 _ t1 el h2 => ?_
    refine go_bind ((E.up s1).up t1) h2 fun u1 u2 Hs3 H3 _ w1 eu h3 => ?_
    subst el eu
    have rx3 := (rx.mono t1.fs).mono w1.fs
    cases rx3 with
    | lst h ra => exact ⟨_, _, rfl, .of (w1.sub _ _ h), fun p n => own_lst h3 w1.sub n (ra.cut _ _)⟩
    | src h ra => exact ⟨_, _, rfl, w1.sub.seqL h, fun p n => own_lst h3 w1.sub n (ra.cut _ _)⟩
    | _ => exact h3.elim
def eOlist (a : Ex) : Ev → R (List PV) := fun ρ => (a ρ).bind fun x => lstOf (listP [x])
theorem vo_list {p : Pos} (ha : PE X a (tv X.K cl W f)) (hm : X.mg "list" = none) (hgl : Gl X "list" := by rfl) (he : starEach (a :: []) X.env = (false, eval a X.env) :: starEach [] X.env := by rfl) (hpl : (backTo pos (starEach [] X.env)).any (·.1) = false := by rfl) : PE X (.Call (.Name "list" p) [a] [] pos) (to X.K cl W (eOlist f)) :=
  peWeak (pe_callTy call_list_of hgl hm boot_list (pa_cons ha pa_nil he) (he := he) (hpl := hpl)) fun σ H Q ⟨Hs, ρ, E, h⟩ => by
    refine go_bind E h fun v x Hs1 H1 _ s1 rx h1 => ?_
    cases rx with
    | lst h ra => exact ⟨_, _, rfl, .inl (.of (s1.sub _ _ h)), fun p n => own_lst h1 s1.sub n ra⟩
    | src h ra => exact ⟨_, _, rfl, .inl (s1.sub.seqL h), fun p n => own_lst h1 s1.sub n ra⟩
    | tup h ra => exact ⟨_, _, rfl, .inr (s1.sub.seqT h), fun p n => own_lst h1 s1.sub n ra⟩
    | _ => exact h1.elim
/-- .. as a value that stays -/
theorem ve_ofO {e : Expr} {g : Ev → R (List PV)} (h : PE X e (to X.K cl W g)) : PE X e (tv X.K cl W (asLst g)) :=
  peWeak h fun σ H Q ⟨Hs, ρ, E, h⟩ => by
    refine ⟨Hs, ρ, E, ?_⟩
    unfold asLst at h
    cases e : g ρ with
    | ok xs =>
      rw [e] at h
      intro a vs Hs' H' s e1 n1 n2 r
      have n' : Hs a = none := by
        cases q : Hs a with
        | none => rfl
        | some o => rw [s.fs a o q] at n1; cases n1
      refine h _ (upd Hs' a (.lst vs)) H' ⟨s.fs.trans (Sub.new n1), fun b o q => ?_, s.same, fun b hb n => ?_⟩ (.lst upd_same (r.mono (Sub.new n1)))
      · by_cases hb : b = a
        · subst hb; rw [upd_same] at q; rw [e1]; exact q
        · rw [upd_ne hb] at q; exact s.sub b o q
      · rw [upd_ne (fun z => hb (by rw [z]; exact n2))]
        exact s.nw b hb n
    | exc c fs => rw [e] at h; exact h
    | stuck => rw [e] at h; exact h
end

/-! ### what is walked -/
structure Wk (K : PySem.W.Frag) (cl : Nat → Addr) (Hs : Hp) (J : It) (xs : List PV) : Prop where
  go : ∀ (i : Nat) H Hs', Sub Hs Hs' → Sub Hs' H → i < xs.length → J.go i H
  stop : ∀ (i : Nat) H Hs', Sub Hs Hs' → Sub Hs' H → xs.length ≤ i → J.stop i H
  yld : ∀ (i : Nat) x H H' Hs' v, Sub Hs Hs' → Sub Hs' H → xs[i]? = some v → J.yld i H x H' → ∃ Hs'', Ext Hs' H Hs'' H' ∧ Rp K cl Hs'' x v
/-- .. whatever the heap -/
def WkA (K : PySem.W.Frag) (cl : Nat → Addr) (_ : Hp) (J : It) (xs : List PV) : Prop := ∀ Hs, Wk K cl Hs J xs
theorem bears_wk {K : PySem.W.Frag} {cl : Nat → Addr} : Bears K cl (Wk K cl) (fun _ => false) := ⟨fun _ _ e => Bool.noConfusion e⟩
theorem bears_wkA {K : PySem.W.Frag} {cl : Nat → Addr} : Bears K cl (WkA K cl) (fun _ => true) := ⟨fun _ r _ => r⟩
section
variable {K : PySem.W.Frag} {cl : Nat → Addr} {Hs : Hp}
theorem wk_list {a : Addr} {vs : List V} {xs : List PV} (h : SqL K Hs a vs) (r : RpA K cl Hs vs xs) : Wk K cl Hs (Itl K a) xs := by
  refine ⟨fun i H Hs' s1 s2 hi => ?_, fun i H Hs' s1 s2 hi => ⟨vs, (s1.trans s2).seqL h, by rw [r.length]; exact hi⟩, fun i x H H' Hs' v s1 s2 e y => ?_⟩
  · rw [← r.length] at hi
    exact ⟨vs, vs[i], (s1.trans s2).seqL h, by simp [hi]⟩
  · obtain ⟨e1, y⟩ := y
    subst e1
    obtain ⟨u, e2, ru⟩ := r.get e
    have e3 := y vs ((s1.trans s2).seqL h)
    rw [e2] at e3
    cases e3
    exact ⟨Hs', Ext.refl s2, ru.mono s1⟩
theorem wk_tup {a : Addr} {vs : List V} {xs : List PV} (h : SqT K Hs a vs) (r : RpA K cl Hs vs xs) : Wk K cl Hs (Itt K a) xs := by
  refine ⟨fun i H Hs' s1 s2 hi => ?_, fun i H Hs' s1 s2 hi => ⟨vs, (s1.trans s2).seqT h, by rw [r.length]; exact hi⟩, fun i x H H' Hs' v s1 s2 e y => ?_⟩
  · rw [← r.length] at hi
    exact ⟨vs, vs[i], (s1.trans s2).seqT h, by simp [hi]⟩
  · obtain ⟨e1, y⟩ := y
    subst e1
    obtain ⟨u, e2, ru⟩ := r.get e
    have e3 := y vs ((s1.trans s2).seqT h)
    rw [e2] at e3
    cases e3
    exact ⟨Hs', Ext.refl s2, ru.mono s1⟩
def signsP (z : Str) : List PV := z.cps.toList.map fun c => .str ⟨#[c]⟩
theorem wk_str {z : Str} : Wk K cl Hs (Its z) (signsP z) := by
  have hl : (signsP z).length = z.cps.size := by simp [signsP]
  refine ⟨fun i H Hs' s1 s2 hi => by rw [hl] at hi; exact hi, fun i H Hs' s1 s2 hi => by rw [hl] at hi; exact hi, fun i x H H' Hs' v s1 s2 e y => ?_⟩
  obtain ⟨e1, c, e2, e3⟩ := y
  subst e1 e3
  refine ⟨Hs', Ext.refl s2, ?_⟩
  unfold signsP at e
  rw [List.getElem?_map] at e
  have e4 : z.cps.toList[i]? = some c := by simpa using e2
  rw [e4] at e
  cases e
  exact .str _
def rangeP (lo : Int) (n : Nat) : List PV := (List.range n).map fun (i : Nat) => .int (lo + (i : Int))
theorem wk_range {lo : Int} {n : Nat} : Wk K cl Hs (Itr lo n) (rangeP lo n) := by
  have hl : (rangeP lo n).length = n := by simp [rangeP]
  refine ⟨fun i H Hs' s1 s2 hi => by rw [hl] at hi; exact hi, fun i H Hs' s1 s2 hi => by rw [hl] at hi; exact hi, fun i x H H' Hs' v s1 s2 e y => ?_⟩
  obtain ⟨e1, e2⟩ := y
  subst e1 e2
  refine ⟨Hs', Ext.refl s2, ?_⟩
  have hi : i < n := by
    have := (List.getElem?_eq_some_iff.mp e).1
    rw [hl] at this
    exact this
  unfold rangeP at e
  rw [List.getElem?_map, List.getElem?_range hi] at e
  cases e
  exact .int _
def zipP (xs ys : List PV) : List PV := List.zipWith (fun x y => .tup [x, y]) xs ys
theorem wk_zip {a b : Addr} {vs ws : List V} {xs ys : List PV} (h : SqL K Hs a vs) (h' : SqL K Hs b ws) (r : RpA K cl Hs vs xs) (r' : RpA K cl Hs ws ys) : Wk K cl Hs (Itz K a b) (zipP xs ys) := by
  have hl : (zipP xs ys).length = min xs.length ys.length := by simp [zipP]
  refine ⟨fun i H Hs' s1 s2 hi => ?_, fun i H Hs' s1 s2 hi => ?_, fun i x H H' Hs' v s1 s2 e y => ?_⟩
  · rw [hl] at hi
    have h1 : i < vs.length := by rw [r.length]; omega
    have h2 : i < ws.length := by rw [r'.length]; omega
    exact ⟨vs, ws, vs[i], ws[i], (s1.trans s2).seqL h, (s1.trans s2).seqL h', by simp [h1], by simp [h2]⟩
  · rw [hl] at hi
    exact ⟨vs, ws, (s1.trans s2).seqL h, (s1.trans s2).seqL h', by rw [r.length, r'.length]; omega⟩
  · obtain ⟨T, x1, y1, rfl, n, rfl, f1, f2⟩ := y
    unfold zipP at e
    rw [List.getElem?_zipWith] at e
    cases ex : xs[i]? with
    | none => rw [ex] at e; simp at e
    | some xv =>
      cases ey : ys[i]? with
      | none => rw [ex, ey] at e; simp at e
      | some yv =>
        rw [ex, ey] at e
        simp at e
        subst e
        obtain ⟨u, e2, ru⟩ := r.get ex
        obtain ⟨u', e2', ru'⟩ := r'.get ey
        have e3 := f1 vs ((s1.trans s2).seqL h)
        have e3' := f2 ws ((s1.trans s2).seqL h')
        rw [e2] at e3; cases e3
        rw [e2'] at e3'; cases e3'
        have n' : Hs' T = none := s2.none n
        refine ⟨upd Hs' T (.tup [x1, y1]), Ext.new s2 n, .tup (.of upd_same) ?_⟩
        exact .cons ((ru.mono s1).mono (Sub.new n')) (.cons ((ru'.mono s1).mono (Sub.new n')) .nil)
def enumP (i : Nat) : List PV → List PV
  | [] => []
  | x :: r => .tup [.int (i : Int), x] :: enumP (i + 1) r
theorem enumP_len : ∀ (xs : List PV) (i : Nat), (enumP i xs).length = xs.length
  | [], _ => rfl
  | x :: r, i => by simp [enumP, enumP_len r]
theorem enumP_get : ∀ (xs : List PV) (i k : Nat) (v : PV), (enumP i xs)[k]? = some v → ∃ x, xs[k]? = some x ∧ v = .tup [.int ((i + k : Nat) : Int), x]
  | [], _, _, _, h => by simp [enumP] at h
  | x :: r, i, 0, v, h => by simp [enumP] at h; exact ⟨x, rfl, by simp [← h]⟩
  | x :: r, i, k + 1, v, h => by
    obtain ⟨y, e1, e2⟩ := enumP_get r (i + 1) k v (by simpa [enumP] using h)
    exact ⟨y, by simpa using e1, by rw [e2, show i + 1 + k = i + (k + 1) by omega]⟩
theorem wk_enum {a : Addr} {vs : List V} {xs : List PV} (h : SqL K Hs a vs) (r : RpA K cl Hs vs xs) : Wk K cl Hs (Ite K a) (enumP 0 xs) := by
  refine ⟨fun i H Hs' s1 s2 hi => ?_, fun i H Hs' s1 s2 hi => ⟨vs, (s1.trans s2).seqL h, by rw [r.length, ← enumP_len xs 0]; exact hi⟩, fun i x H H' Hs' v s1 s2 e y => ?_⟩
  · rw [enumP_len, ← r.length] at hi
    exact ⟨vs, vs[i], (s1.trans s2).seqL h, by simp [hi]⟩
  · obtain ⟨T, x1, rfl, n, rfl, f1⟩ := y
    obtain ⟨xv, ex, rfl⟩ := enumP_get _ _ _ _ e
    obtain ⟨u, e2, ru⟩ := r.get ex
    have e3 := f1 vs ((s1.trans s2).seqL h)
    rw [e2] at e3; cases e3
    have n' : Hs' T = none := s2.none n
    refine ⟨upd Hs' T (.tup [.int (i : Nat), x1]), Ext.new s2 n, .tup (.of upd_same) (.cons ?_ (.cons ((ru.mono s1).mono (Sub.new n')) .nil))⟩
    rw [Nat.zero_add]
    exact .int _
end
theorem piWeak {X : Cx} {tg e : Expr} {t t' : TI} (h : PI X tg e t) (w : ∀ σ H Q, t' σ H Q → t σ H Q) : PI X tg e t' := ⟨fun pins s σ H R I q => h.run pins s σ H R I (w σ H R q)⟩
theorem piOr {X : Cx} {tg e : Expr} {t t' : TI} (h : PI X tg e t) (h' : PI X tg e t') : PI X tg e (fun σ H R => t σ H R ∨ t' σ H R) := ⟨fun pins s σ H R I q => q.elim (h.run pins s σ H R I) (h'.run pins s σ H R I)⟩
/-- the items of a list, a tuple, a text -/
def itemsP : PV → R (List PV)
  | .lst xs => .ok xs
  | .src xs => .ok xs
  | .tup xs => .ok xs
  | .str z => .ok (signsP z)
  | _ => .stuck
def iSeq (a : Ex) : Ev → R (List PV) := fun ρ => (a ρ).bind itemsP
def iR1 (a : Ex) : Ev → R (List PV) := fun ρ => (a ρ).bind fun x => match x with
  | .int j => if -(2 ^ 62) ≤ j ∧ j < 2 ^ 62 then .ok (rangeP 0 j.toNat) else .stuck
  | _ => .stuck
def iR2 (a b : Ex) : Ev → R (List PV) := fun ρ => (a ρ).bind fun x => (b ρ).bind fun y => match x, y with
  | .int i, .int j => if -(2 ^ 62) ≤ i ∧ i < 2 ^ 62 ∧ -(2 ^ 62) ≤ j ∧ j < 2 ^ 62 then .ok (rangeP i (j - i).toNat) else .stuck
  | _, _ => .stuck
def iZipP (a b : Ex) : Ev → R (List PV) := fun ρ => (a ρ).bind fun x => (b ρ).bind fun y => match x, y with
  | .lst xs, .lst ys => .ok (zipP xs ys)
  | _, _ => .stuck
def iEnumP (a : Ex) : Ev → R (List PV) := fun ρ => (a ρ).bind fun x => match x with
  | .lst xs => .ok (enumP 0 xs)
  | _ => .stuck
section
variable {X : Cx} {cl : Nat → Addr} {W : WX} {pos p : Pos} {tg a b : Expr} {f f' : Ex}
theorem vi_seq (h : PE X a (tv X.K cl W f)) : PI X tg a (gv X.K cl (Wk X.K cl) W (iSeq f)) :=
  piWeak (piOr (piOr (pi_list h) (pi_tup h)) (pi_str h)) fun σ H Q ⟨Hs, ρ, E, h⟩ => by
    have go : ∀ {P : V → Hp → Prop}, (∀ v x Hs1 H1, f ρ = .ok v → Ext Hs H Hs1 H1 → Rp X.K cl Hs1 x v → GP X.K cl (Wk X.K cl) W Hs1 H1 σ (itemsP v) Q → P x H1) → tv X.K cl W f σ H P := fun {P} hk => gv_bind E h hk
    unfold iSeq at h
    cases e : f ρ with
    | ok v =>
      cases v with
      | lst xs =>
        refine .inl (.inl (go fun v x Hs1 H1 e1 s1 rx h1 => ?_))
        rw [e] at e1; cases e1
        cases rx with
        | lst h ra => exact ⟨_, rfl, ⟨_, .of (s1.sub _ _ h)⟩, h1.here s1.sub (wk_list (.of h) ra)⟩
      | src xs =>
        refine .inl (.inl (go fun v x Hs1 H1 e1 s1 rx h1 => ?_))
        rw [e] at e1; cases e1
        cases rx with
        | src h ra => exact ⟨_, rfl, ⟨_, s1.sub.seqL h⟩, h1.here s1.sub (wk_list h ra)⟩
      | tup xs =>
        refine .inl (.inr (go fun v x Hs1 H1 e1 s1 rx h1 => ?_))
        rw [e] at e1; cases e1
        cases rx with
        | tup h ra => exact ⟨_, rfl, ⟨_, s1.sub.seqT h⟩, h1.here s1.sub (wk_tup h ra)⟩
      | str z =>
        refine .inr (go fun v x Hs1 H1 e1 s1 rx h1 => ?_)
        rw [e] at e1; cases e1
        cases rx with
        | str z => exact ⟨_, rfl, h1.here s1.sub wk_str⟩
      | _ => rw [e] at h; exact h.elim
    | exc c fs => exact .inr (go fun v x Hs1 H1 e1 s1 rx h1 => by rw [e] at e1; cases e1)
    | stuck => rw [e] at h; exact h.elim
theorem vi_r1 (h : PE X a (tv X.K cl W f)) (hm : X.mg "range" = none) (hg : Gl X "range" := by rfl) (hs : starEach [a] X.env = [(false, eval a X.env)] := by rfl) : PI X tg (.Call (.Name "range" p) [a] [] pos) (gv X.K cl (WkA X.K cl) W (iR1 f)) :=
  piWeak (pi_range1 hg hm (pa_cons h pa_nil hs) hs) fun σ H Q ⟨Hs, ρ, E, h⟩ => by
    refine gv_bind E h fun v x Hs1 H1 e1 s1 rx h1 => ?_
    cases rx with
    | int j =>
      replace h1 : GP X.K cl (WkA X.K cl) W Hs1 H1 σ (if -(2 ^ 62) ≤ j ∧ j < 2 ^ 62 then .ok (rangeP 0 j.toNat) else .stuck) Q := h1
      split at h1
      · rename_i hk
        exact ⟨j, rfl, hk.1, hk.2, h1.here s1.sub fun _ => wk_range⟩
      · exact h1.elim
    | _ => exact h1.elim
theorem vi_r2 (h : PE X a (tv X.K cl W f)) (h' : PE X b (tv X.K cl W f')) (hm : X.mg "range" = none) (hg : Gl X "range" := by rfl) (hs : starEach [a, b] X.env = [(false, eval a X.env), (false, eval b X.env)] := by rfl) (hs2 : starEach [b] X.env = [(false, eval b X.env)] := by rfl) :
    PI X tg (.Call (.Name "range" p) [a, b] [] pos) (gv X.K cl (WkA X.K cl) W (iR2 f f')) :=
  piWeak (pi_range2 hg hm (pa_cons h (pa_cons h' pa_nil hs2) (by rw [hs, hs2])) hs hs2) fun σ H Q ⟨Hs, ρ, E, h⟩ => by
    refine gv_bind E h fun v x Hs1 H1 e1 s1 rx h1 => ?_
    refine gv_bind (E.up s1) h1 fun u y Hs2 H2 e2 t1 ry h2 => ?_
    cases rx with
    | int i =>
      cases ry with
      | int j =>
        replace h2 : GP X.K cl (WkA X.K cl) W Hs2 H2 σ (if -(2 ^ 62) ≤ i ∧ i < 2 ^ 62 ∧ -(2 ^ 62) ≤ j ∧ j < 2 ^ 62 then .ok (rangeP i (j - i).toNat) else .stuck) Q := h2
        split at h2
        · rename_i hk
          exact ⟨i, j, rfl, hk, h2.here t1.sub fun _ => wk_range⟩
        · exact h2.elim
      | _ => exact h2.elim
    | _ => cases ry <;> exact h2.elim
theorem vi_zip {elts : List Expr} {kk : Nat} {tpos : Pos} (h : PE X a (tv X.K cl W f)) (h' : PE X b (tv X.K cl W f')) (hm : X.mg "zip" = none) (hg : Gl X "zip" := by rfl) (hs : starEach [a, b] X.env = (false, eval a X.env) :: starEach [b] X.env := by rfl) (hs2 : starEach [b] X.env = [(false, eval b X.env)] := by rfl)
    (hpl : (backTo pos (starEach [b] X.env)).any (·.1) = false := by rfl) : PI X (.Tuple elts kk tpos) (.Call (.Name "zip" p) [a, b] [] pos) (gv X.K cl (Wk X.K cl) W (iZipP f f')) :=
  piWeak (pi_zip hg hm (pa_cons h (pa_cons h' pa_nil hs2) hs) hs hpl) fun σ H Q ⟨Hs, ρ, E, h⟩ => by
    refine gv_bind E h fun v x Hs1 H1 e1 s1 rx h1 => ?_
    refine gv_bind (E.up s1) h1 fun u y Hs2 H2 e2 t1 ry h2 => ?_
    have rx2 := rx.mono t1.fs
    cases rx2 with
    | lst h ra =>
      cases ry with
      | lst h' rb => exact ⟨_, _, _, _, rfl, .of (t1.sub _ _ h), .of (t1.sub _ _ h'), h2.here t1.sub (wk_zip (.of h) (.of h') ra rb)⟩
      | _ => exact h2.elim
    | _ => cases ry <;> exact h2.elim
theorem vi_enum {elts : List Expr} {kk : Nat} {tpos : Pos} (h : PE X a (tv X.K cl W f)) (hm : X.mg "enumerate" = none) (hg : Gl X "enumerate" := by rfl) (hs : starEach [a] X.env = [(false, eval a X.env)] := by rfl) :
    PI X (.Tuple elts kk tpos) (.Call (.Name "enumerate" p) [a] [] pos) (gv X.K cl (Wk X.K cl) W (iEnumP f)) :=
  piWeak (pi_enum hg hm (pa_cons h pa_nil hs) hs) fun σ H Q ⟨Hs, ρ, E, h⟩ => by
    refine gv_bind E h fun v x Hs1 H1 e1 s1 rx h1 => ?_
    cases rx with
    | lst h ra => exact ⟨_, _, rfl, .of (s1.sub _ _ h), h1.here s1.sub (wk_enum (.of h) ra)⟩
    | _ => exact h1.elim
end

/-! ### targets -/
abbrev As := List (Nat × PV)
abbrev Tg := PV → Option As
def tN (i : Nat) : Tg := fun v => some [(i, v)]
def tTs : List Tg → List PV → Option As
  | [], [] => some []
  | t :: ts, v :: vs => (t v).bind fun a => (tTs ts vs).map (a ++ ·)
  | _, _ => none
def tT (ts : List Tg) : Tg
  | .tup vs => tTs ts vs
  | _ => none
def setV : List (Nat × V) → St → St
  | [], σ => σ
  | (i, x) :: r, σ => setV r (σ.set i (some x))
def setS : As → Env → Env
  | [], ρ => ρ
  | (i, v) :: r, ρ => setS r (ρ.set i (.fz v))
def setE : As → Ev → Ev
  | [], ρ => ρ
  | (i, v) :: r, ρ => setE r (ρ.set i (some v))
inductive RelAs (K : PySem.W.Frag) (cl : Nat → Addr) (Hs : Hp) : List (Nat × V) → As → Prop
  | nil : RelAs K cl Hs [] []
  | cons {i : Nat} {x : V} {v : PV} {xs : List (Nat × V)} {vs : As} : Rp K cl Hs x v → RelAs K cl Hs xs vs → RelAs K cl Hs ((i, x) :: xs) ((i, v) :: vs)
section
variable {K : PySem.W.Frag} {cl : Nat → Addr} {Hs H : Hp}
theorem RelAs.append {a b : List (Nat × V)} {c d : As} (h : RelAs K cl Hs a c) (h' : RelAs K cl Hs b d) : RelAs K cl Hs (a ++ b) (c ++ d) := by
  induction h with
  | nil => exact h'
  | cons r _ ih => exact .cons r ih
theorem setV_append : ∀ (a b : List (Nat × V)) (σ : St), setV (a ++ b) σ = setV b (setV a σ)
  | [], _, _ => rfl
  | (i, x) :: r, b, σ => setV_append r b _
theorem SEnv.sets {He H0 : Hp} : ∀ {xs : List (Nat × V)} {as : As} {σ : St} {ρ : Env}, SEnv K cl He H0 Hs H σ ρ → RelAs K cl Hs xs as → SEnv K cl He H0 Hs H (setV xs σ) (setS as ρ)
  | _, _, _, _, S, .nil => S
  | _, _, σ, ρ, S, .cons (i := i) (x := x) (v := v) r t => SEnv.sets (σ := σ.set i (some x)) (ρ := ρ.set i (.fz v)) (S.set r i) t
theorem PEnv.set {σ : St} {ρ : Ev} (E : PEnv K cl Hs H σ ρ) {x : V} {v : PV} (r : Rp K cl Hs x v) (i : Nat) : PEnv K cl Hs H (σ.set i (some x)) (ρ.set i (some v)) := by
  have hl := E.len
  refine ⟨E.sub, by simpa using hl, fun j u h => ?_⟩
  by_cases e : i = j
  · subst e
    by_cases hi : i < ρ.length
    · rw [List.getElem?_set_self hi] at h
      cases h
      exact ⟨x, List.getElem?_set_self (by rw [← hl]; exact hi), r⟩
    · rw [List.getElem?_eq_none (by simpa using hi)] at h; cases h
  · rw [List.getElem?_set_ne e] at h ⊢
    exact E.at_ j u h
theorem PEnv.sets : ∀ {xs : List (Nat × V)} {as : As} {σ : St} {ρ : Ev}, PEnv K cl Hs H σ ρ → RelAs K cl Hs xs as → PEnv K cl Hs H (setV xs σ) (setE as ρ)
  | _, _, _, _, E, .nil => E
  | _, _, σ, ρ, E, .cons (i := i) (x := x) (v := v) r t => PEnv.sets (σ := σ.set i (some x)) (ρ := ρ.set i (some v)) (E.set r i) t
end
/-- a target's rule and what it stores -/
def TgOk (K : PySem.W.Frag) (cl : Nat → Addr) (g : TG) (t : Tg) : Prop := ∀ (Hs H : Hp) (σ : St) (x : V) (v : PV) (as : As) (Q : St → Hp → Prop), Sub Hs H → Rp K cl Hs x v → t v = some as → (∀ xs, RelAs K cl Hs xs as → Q (setV xs σ) H) → g x σ H Q
def TgsOk (K : PySem.W.Frag) (cl : Nat → Addr) (g : TGs) (t : List PV → Option As) : Prop := ∀ (Hs H : Hp) (σ : St) (xs : List V) (vs : List PV) (as : As) (Q : St → Hp → Prop), Sub Hs H → RpA K cl Hs xs vs → t vs = some as → (∀ xs, RelAs K cl Hs xs as → Q (setV xs σ) H) → g xs σ H Q
section
variable {K : PySem.W.Frag} {cl : Nat → Addr}
theorem tg_name (i : Nat) : TgOk K cl (gName i) (tN i) := fun Hs H σ x v as Q _ r e q => by
  cases e
  exact q [(i, x)] (.cons r .nil)
theorem tgs_nil : TgsOk K cl gNil (tTs []) := fun Hs H σ xs vs as Q _ r e q => by
  cases r with
  | nil => cases e; exact ⟨rfl, q [] .nil⟩
  | cons _ _ => cases e
theorem tgs_cons {g : TG} {gs : TGs} {t : Tg} {ts : List Tg} (h : TgOk K cl g t) (hs : TgsOk K cl gs (tTs ts)) : TgsOk K cl (gCons g gs) (tTs (t :: ts)) := fun Hs H σ xs vs as Q s r e q => by
  cases r with
  | nil => cases e
  | cons r t =>
    simp only [tTs, Option.bind_eq_some_iff, Option.map_eq_some_iff] at e
    obtain ⟨a, e1, b, e2, rfl⟩ := e
    exact ⟨_, _, rfl, h Hs H σ _ _ a _ s r e1 fun xs rx => hs Hs H _ _ _ b Q s t e2 fun ys ry => by rw [← setV_append]; exact q _ (rx.append ry)⟩
theorem tTs_len : ∀ {ts : List Tg} {vs : List PV} {as : As}, tTs ts vs = some as → vs.length = ts.length
  | [], [], _, _ => rfl
  | [], _ :: _, _, h => by cases h
  | _ :: _, [], _, h => by cases h
  | t :: ts, v :: vs, _, h => by
    simp only [tTs, Option.bind_eq_some_iff, Option.map_eq_some_iff] at h
    obtain ⟨a, e1, b, e2, rfl⟩ := h
    simp [tTs_len e2]
theorem tg_tup {gs : TGs} {ts : List Tg} {n : Nat} (hs : TgsOk K cl gs (tTs ts)) (hn : ts.length = n := by rfl) : TgOk K cl (gTup K n gs) (tT ts) := fun Hs H σ x v as Q s r e q => by
  cases r with
  | tup h ra => exact ⟨_, _, rfl, s.seqT h, by rw [ra.length, tTs_len e, hn], hs Hs H σ _ _ as Q s ra e q⟩
  | _ => cases e
end
/-- the slots that a target may store -/
def TgIn (t : Tg) (own : List Nat) : Prop := ∀ v as, t v = some as → ∀ p ∈ as, p.1 ∈ own
theorem tin_n {i : Nat} {own : List Nat} (h : i ∈ own) : TgIn (tN i) own := fun v as e p hp => by
  cases e
  simp at hp
  subst hp
  exact h
theorem tin_ts {own : List Nat} : ∀ {ts : List Tg}, (∀ t ∈ ts, TgIn t own) → ∀ vs as, tTs ts vs = some as → ∀ p ∈ as, p.1 ∈ own
  | [], _, [], _, e, p, hp => by cases e; simp at hp
  | [], _, _ :: _, _, e, _, _ => by cases e
  | _ :: _, _, [], _, e, _, _ => by cases e
  | t :: ts, h, v :: vs, _, e, p, hp => by
    simp only [tTs, Option.bind_eq_some_iff, Option.map_eq_some_iff] at e
    obtain ⟨a, e1, b, e2, rfl⟩ := e
    rcases List.mem_append.mp hp with hp | hp
    · exact h t List.mem_cons_self v a e1 p hp
    · exact tin_ts (fun t ht => h t (List.mem_cons_of_mem _ ht)) vs b e2 p hp
theorem tin_t {ts : List Tg} {own : List Nat} (h : ∀ t ∈ ts, TgIn t own) : TgIn (tT ts) own := fun v as e => by
  cases v with
  | tup vs => exact tin_ts h vs as e
  | _ => cases e

/-! ### comprehensions -/
def wipeE (ρ : Ev) : List Nat → Ev
  | [] => ρ
  | v :: vs => (wipeE ρ vs).set v none
theorem wipeE_len (ρ : Ev) : ∀ vs, (wipeE ρ vs).length = ρ.length
  | [] => rfl
  | v :: vs => by simp [wipeE, wipeE_len ρ vs]
def lcL (t : Tg) (c : Ev → R Bool) (e : Ex) (ρ : Ev) : List PV → R (List PV)
  | [] => .ok []
  | v :: vs => match t v with
    | none => .stuck
    | some as => match c (setE as ρ) with
      | .ok true => match e (setE as ρ) with
        | .ok y => match lcL t c e ρ vs with
          | .ok ys => .ok (y :: ys)
          | _ => .stuck
        | _ => .stuck
      | .ok false => lcL t c e ρ vs
      | _ => .stuck
def szO : R (List PV) → R (List PV)
  | .ok ys => if ys.length ≤ sizeLine then .ok ys else .stuck
  | _ => .stuck
def eLc (own : List Nat) (t : Tg) (it : Ev → R (List PV)) (c : Ev → R Bool) (e : Ex) : Ev → R (List PV) := fun ρ => (it ρ).bind fun xs => szO (lcL t c e (wipeE ρ own) xs)
def cYes : Ev → R Bool := fun _ => .ok true
theorem wipe_set {σ : St} {i : Nat} {x : Option V} : ∀ {vs : List Nat}, i ∈ vs → wipe (σ.set i x) vs = wipe σ vs
  | v :: vs, h => by
    unfold wipe
    by_cases e : i ∈ vs
    · rw [wipe_set e]
    · have e2 : i = v := by rcases List.mem_cons.mp h with h | h; exact h; exact absurd h e
      subst e2
      have gen : ∀ (ws : List Nat), i ∉ ws → wipe (σ.set i x) ws = (wipe σ ws).set i x := by
        intro ws
        induction ws with
        | nil => intro _; rfl
        | cons w ws ih =>
          intro hw
          simp only [List.mem_cons, not_or] at hw
          unfold wipe
          rw [ih hw.2, List.set_comm _ _ hw.1]
      rw [gen vs e, List.set_set]
theorem wipe_setV : ∀ (xs : List (Nat × V)) (σ : St) (vs : List Nat), (∀ p ∈ xs, p.1 ∈ vs) → wipe (setV xs σ) vs = wipe σ vs
  | [], _, _, _ => rfl
  | (i, x) :: r, σ, vs, h => by
    show wipe (setV r (σ.set i (some x))) vs = _
    rw [wipe_setV r _ vs fun p hp => h p (List.mem_cons_of_mem _ hp), wipe_set (h (i, x) List.mem_cons_self)]
theorem wipe_wipe (σ : St) (vs : List Nat) : wipe (wipe σ vs) vs = wipe σ vs := by
  have gen : ∀ (ws : List Nat), (∀ w ∈ ws, w ∈ vs) → wipe (wipe σ ws) vs = wipe σ vs := by
    intro ws
    induction ws with
    | nil => intro _; rfl
    | cons w ws ih =>
      intro h
      show wipe ((wipe σ ws).set w none) vs = _
      rw [wipe_set (h w List.mem_cons_self)]
      exact ih fun w hw => h w (List.mem_cons_of_mem _ hw)
  exact gen vs fun _ h => h
theorem RelAs.fst {K : PySem.W.Frag} {cl : Nat → Addr} {Hs : Hp} {xs : List (Nat × V)} {as : As} (h : RelAs K cl Hs xs as) : ∀ p ∈ xs, ∃ q ∈ as, q.1 = p.1 := by
  induction h with
  | nil => intro p hp; simp at hp
  | cons r _ ih =>
    intro p hp
    rcases List.mem_cons.mp hp with rfl | hp
    · exact ⟨_, List.mem_cons_self, rfl⟩
    · obtain ⟨q, h1, h2⟩ := ih p hp
      exact ⟨q, List.mem_cons_of_mem _ h1, h2⟩
section
variable {K : PySem.W.Frag} {cl : Nat → Addr} {Hs H : Hp}
theorem PEnv.wipe {σ : St} {ρ : Ev} (E : PEnv K cl Hs H σ ρ) : ∀ vs : List Nat, PEnv K cl Hs H (L2.wipe σ vs) (wipeE ρ vs)
  | [] => E
  | v :: vs => by
    have ih := E.wipe vs
    refine ⟨E.sub, by rw [wipeE_len, wipe_length]; exact E.len, fun i u h => ?_⟩
    have h : ((wipeE ρ vs).set v none)[i]? = some (some u) := h
    show ∃ x, ((L2.wipe σ vs).set v none)[i]? = some (some x) ∧ _
    by_cases e : v = i
    · subst e
      by_cases hi : v < (wipeE ρ vs).length
      · rw [List.getElem?_set_self hi] at h; cases h
      · rw [List.getElem?_eq_none (by simpa using hi)] at h; cases h
    · rw [List.getElem?_set_ne e] at h ⊢
      exact ih.at_ i u h
end
/-- nothing raised is wished for -/
abbrev W0 : WX := fun _ _ _ _ => False
section
variable {X : Cx} {cl : Nat → Addr} {W : WX} {pos : Pos}
theorem vts_nil {c : Cx} : PTs c [] (tt c.K cl W0 cYes) := ⟨fun pins s σ H Q I hw => pts_nil.run pins s σ H Q I (by
  obtain ⟨Hs, ρ, E, h⟩ := hw
  exact GP.here (x := true) h E.sub rfl)⟩
theorem vts_one {c : Cx} {e : Expr} {t : Ev → R Bool} (h : PT c e (tt c.K cl W0 t)) : PTs c [e] (tt c.K cl W0 t) := pts_one h
theorem lc_use {rel : Hp → It → List PV → Prop} {it : Ev → R (List PV)} {g : TG} {t : Tg} {c : Ev → R Bool} {e : Ex} {own : List Nat} (hR : ∀ Hs J xs, rel Hs J xs → Wk X.K cl Hs J xs) (hG : TgOk X.K cl g t) (hI : TgIn t own) {σ : St} {H : Hp} {Q : VK}
    (h : to X.K cl W (eLc own t it c e) σ H Q) : tLc (gv X.K cl rel W it) g (tt X.K cl W0 c) (tv X.K cl W0 e) own σ H Q := by
  obtain ⟨Hs, ρ, E, h⟩ := h
  refine go_bind E h fun xs J Hs1 H1 e1 s1 rx h1 => ?_
  have Wj := hR _ _ _ rx
  intro D hD
  have E1 := (E.up s1).wipe own
  -- the result is told
  cases e2 : lcL t c e (wipeE ρ own) xs with
  | exc c' fs => rw [e2] at h1; exact h1.elim
  | stuck => rw [e2] at h1; exact h1.elim
  | ok ys =>
    rw [e2] at h1
    replace h1 : GO X.K cl W Hs1 H1 σ (if ys.length ≤ sizeLine then .ok ys else .stuck) Q := h1
    split at h1
    · rename_i hsz
      refine ⟨fun i m H2 => ∃ Hs2 acc accP zs, i + m = xs.length ∧ Ext Hs1 H1 Hs2 H2 ∧ Hs2 D = none ∧ H2 D = some (.lst acc) ∧ RpA X.K cl Hs2 acc accP ∧ lcL t c e (wipeE ρ own) (xs.drop i) = .ok zs ∧ accP ++ zs = ys,
        ⟨xs.length, Hs1, [], [], ys, by omega, Ext.newO s1.sub hD, s1.sub.none hD, upd_same, .nil, by simpa using e2, rfl⟩, ?_⟩
      rintro i m H2 ⟨Hs2, acc, accP, zs, em, x2, nD, eD, rA, el, ea⟩
      by_cases hi : i < xs.length
      · refine .inr ⟨Wj.go i H2 Hs2 x2.fs x2.sub hi, fun H3 => ∃ Hs2 acc accP zs, Ext Hs1 H1 Hs2 H3 ∧ Hs2 D = none ∧ H3 D = some (.lst acc) ∧ RpA X.K cl Hs2 acc accP ∧ lcL t c e (wipeE ρ own) (xs.drop (i + 1)) = .ok zs ∧ accP ++ zs = ys,
          fun H3 ⟨Hs3, acc3, accP3, zs3, q⟩ => ⟨m - 1, by omega, Hs3, acc3, accP3, zs3, by omega, q⟩, fun x H3 hy => ?_⟩
        have ev : xs[i]? = some xs[i] := List.getElem?_eq_getElem hi
        obtain ⟨Hs3, x3, rx3⟩ := Wj.yld i x H2 H3 Hs2 xs[i] x2.fs x2.sub ev hy
        rw [List.drop_eq_getElem_cons hi] at el
        unfold lcL at el
        cases et : t xs[i] with
        | none => rw [et] at el; cases el
        | some as =>
          rw [et] at el
          have x13 := x2.trans x3
          refine hG Hs3 H3 (wipe σ own) x xs[i] as _ x3.sub rx3 et fun vs rv => ⟨?_, ?_⟩
          · rw [wipe_setV _ _ _ fun p hp => ?_, wipe_wipe]
            obtain ⟨q, h1, h2⟩ := rv.fst p hp
            rw [← h2]
            exact hI _ _ et q h1
          · have E3 : PEnv X.K cl Hs3 H3 (setV vs (wipe σ own)) (setE as (wipeE ρ own)) := (E1.up x13).sets rv
            refine ⟨Hs3, _, E3, ?_⟩
            have nD3 : Hs3 D = none := x3.nw D (by rw [eD]; simp) nD
            have eD3 : H3 D = some (.lst acc) := x3.same _ _ eD
            cases ec : c (setE as (wipeE ρ own)) with
            | ok b =>
              simp only [ec] at el
              intro b' Hs4 H4 x4 eb
              subst eb
              have nD4 : Hs4 D = none := x4.nw D (by rw [eD3]; simp) nD3
              have eD4 : H4 D = some (.lst acc) := x4.same _ _ eD3
              cases b' with
              | true =>
                simp only at el
                rw [if_pos rfl]
                refine ⟨Hs4, _, E3.up x4, ?_⟩
                cases ee : e (setE as (wipeE ρ own)) with
                | ok y =>
                  simp only [ee] at el
                  intro yv Hs5 H5 x5 ry
                  have nD5 : Hs5 D = none := x5.nw D (by rw [eD4]; simp) nD4
                  have eD5 : H5 D = some (.lst acc) := x5.same _ _ eD4
                  cases er : lcL t c e (wipeE ρ own) (xs.drop (i + 1)) with
                  | ok ws =>
                    simp only [er] at el
                    cases el
                    have up : Sub Hs2 Hs5 := (x3.fs.trans x4.fs).trans x5.fs
                    refine ⟨acc, eD5, ?_, Hs5, acc ++ [yv], accP ++ [y], ws, ?_, nD5, upd_same, (rA.mono up).append (.cons ry .nil), rfl, by rw [← ea]; simp⟩
                    · rw [rA.length]
                      have : ys.length = accP.length + (ws.length + 1) := by rw [← ea]; simp
                      omega
                    · have x15 := ((x13.trans x4).trans x5)
                      exact ⟨x15.fs, x15.sub.upd nD5, x15.same.upd hD, x15.nw⟩
                  | exc c' fs => simp only [er] at el; cases el
                  | stuck => simp only [er] at el; cases el
                | exc c' fs => simp only [ee] at el; cases el
                | stuck => simp only [ee] at el; cases el
              | false =>
                simp only at el
                rw [if_neg Bool.false_ne_true]
                exact ⟨Hs4, acc, accP, zs, x13.trans x4, nD4, eD4, (rA.mono x3.fs).mono x4.fs, el, ea⟩
            | exc c' fs => simp only [ec] at el; cases el
            | stuck => simp only [ec] at el; cases el
      · have hz : xs.drop i = [] := List.drop_of_length_le (by omega)
        rw [hz] at el
        cases el
        rw [List.append_nil] at ea
        subst ea
        exact .inl ⟨Wj.stop i H2 Hs2 x2.fs x2.sub (by omega), h1 D acc Hs2 H2 x2 eD nD hD rA⟩
    · exact h1.elim
end
end VL
namespace VL
open PySem PySem.Spec PyProof.Rows L2
section
variable {X : Cx} {cl : Nat → Addr} {W : WX} {pos : Pos}
theorem vo_lc {rel : Hp → It → List PV → Prop} {elt tg iter : Expr} {ifs : List Expr} {scope : Scope} {own : List (Str × Nat)} {it : Ev → R (List PV)} {g : TG} {t : Tg} {c : Ev → R Bool} {e : Ex} (hc : X.calm = true) (hN : X.N.Nodup) (hi : PI X tg iter (gv X.K cl rel W it)) (hR : ∀ Hs J xs, rel Hs J xs → Wk X.K cl Hs J xs)
    (ok : BlkOk X.N X.env.scope scope own) (hG : TgOk X.K cl g t) (hI : TgIn t (own.map (·.2)))
    (hg : ∀ (s : Shared) (H : Hp) (C : Addr) (cl : List (Str × Addr)) (fp : List Addr), PG (X.blk s H scope (compEnvC scope cl C X.env) fp) tg g) (ht : ∀ (s : Shared) (H : Hp) (C : Addr) (cl' : List (Str × Addr)) (fp : List Addr), PTs (X.blk s H scope (compEnvC scope cl' C X.env) fp) ifs (tt X.K cl W0 c))
    (he : ∀ (s : Shared) (H : Hp) (C : Addr) (cl' : List (Str × Addr)) (fp : List Addr), PE (X.blk s H scope (compEnvC scope cl' C X.env) fp) elt (tv X.K cl W0 e)) (hs : ∀ x, foldedSetIterable iter X.env x = pure x := by intro _; rfl) :
    PE X (.ListComp elt [⟨tg, iter, ifs, 0⟩] scope pos) (to X.K cl W (eLc (own.map (·.2)) t it c e)) :=
  peWeak (pe_lc hc hN hi ok hg ht he hs) fun σ H Q h => lc_use hR hG hI h
end

/-! ### the statements -/
def sPass : Env → Out := fun ρ => .next ρ
def sBreak : Env → Out := fun ρ => .brk ρ
def sCont : Env → Out := fun ρ => .cont ρ
def sRetN : Env → Out := fun _ => .ret .non
def sSeq (s t : Env → Out) : Env → Out := fun ρ => match s ρ with
  | .next ρ' => t ρ'
  | .brk ρ' => .brk ρ' | .cont ρ' => .cont ρ' | .ret v => .ret v | .exc c fs ρ' => .exc c fs ρ' | .stuck => .stuck
def sExpr (bs : List Bool) (f : Ex) : Env → Out := fun ρ => onE PV.nol f bs ρ fun _ ρ' => .next ρ'
def sRet (bs : List Bool) (f : Ex) : Env → Out := fun ρ => onE PV.nol f bs ρ fun v _ => .ret v
def sSet (i : Nat) (bs : List Bool) (f : Ex) : Env → Out := fun ρ => onE PV.nol f bs ρ fun v ρ' => .next (ρ'.set i (.fz v))
def sTg (t : Tg) (bs : List Bool) (f : Ex) : Env → Out := fun ρ => onE PV.nol f bs ρ fun v ρ' => match t v with
  | some as => .next (setS as ρ')
  | none => .stuck
def sPar (is : List Nat) (bs : List Bool) (fs : List Ex) : Env → Out := fun ρ => onE PV.nols (evs fs) bs ρ fun vs ρ' => .next (setS (is.zip vs) ρ')
def onO (f : Ev → R (List PV)) (bs : List Bool) (ρ : Env) (k : List PV → Env → Out) : Out := match f (vw bs ρ) with
  | .ok xs => k xs (settle bs (PV.nols xs) ρ)
  | .exc c fs => .exc c fs (fr bs ρ)
  | .stuck => .stuck
def sOwn (i : Nat) (bs : List Bool) (f : Ev → R (List PV)) : Env → Out := fun ρ => onO f bs ρ fun xs ρ' => .next (ρ'.set i (.own xs))
def getO : Env → Nat → Option (List PV)
  | .own xs :: _, 0 => some xs
  | _ :: r, n + 1 => getO r n
  | _, _ => none
theorem getO_eq : ∀ {ρ : Env} {i : Nat} {xs : List PV}, getO ρ i = some xs → ρ[i]? = some (.own xs)
  | [], i, xs, h => by cases i <;> cases h
  | .own ys :: r, 0, xs, h => by cases h; rfl
  | .no :: r, 0, xs, h => by cases h
  | .fz v :: r, 0, xs, h => by cases h
  | s :: r, n + 1, xs, h => by
    rw [List.getElem?_cons_succ]
    exact getO_eq (by cases s <;> exact h)
/-- a method that changes an own list -/
def sMet (i : Nat) (g : List PV → List PV → Option (List PV)) (bs : List Bool) (fs : List Ex) : Env → Out := fun ρ => match getO ρ i with
  | none => .stuck
  | some _ => onE PV.nols (evs fs) bs ρ fun vs ρ' => match getO ρ' i with
    | none => .stuck
    | some xs => match g xs vs with
      | none => .stuck
      | some ys => .next (ρ'.set i (.own ys))
def mApp (xs vs : List PV) : Option (List PV) := match vs with
  | [v] => if xs.length < sizeLine then some (xs ++ [v]) else none
  | _ => none
def mExt (xs vs : List PV) : Option (List PV) := match vs with
  | [.lst ys] => if xs.length + ys.length ≤ sizeLine then some (xs ++ ys) else none
  | _ => none
def mIns (xs vs : List PV) : Option (List PV) := match vs with
  | [.int i, v] => if xs.length < sizeLine ∧ 0 ≤ i ∧ i < 2 ^ 63 then some (xs.take i.toNat ++ [v] ++ xs.drop i.toNat) else none
  | _ => none
/-- x[i] = e -/
def sPut (i : Nat) (bs : List Bool) (fv fi : Ex) : Env → Out := fun ρ => onE PV.nol fv bs ρ fun v ρ1 => match getO ρ1 i with
  | none => .stuck
  | some _ => onE PV.nol fi bs ρ1 fun k ρ2 => match getO ρ2 i, k with
    | some xs, .int z => match ixN xs.length z with
      | some j => .next (ρ2.set i (.own (xs.set j v)))
      | none => .stuck
    | _, _ => .stuck
/-- y = x.pop() -/
def sPop (i : Nat) (t : Tg) : Env → Out := fun ρ => match getO ρ i with
  | none => .stuck
  | some xs => match xs[xs.length - 1]? with
    | none => .stuck
    | some v => match t v with
      | none => .stuck
      | some as => .next (setS as (ρ.set i (.own xs.dropLast)))
def sAug (i : Nat) (g : PV → PV → Option PV) (bs : List Bool) (f : Ex) : Env → Out := fun ρ => match ρ[i]? with
  | some (.fz x) => onE PV.nol f bs ρ fun y ρ' => match g x y with
    | some z => .next (ρ'.set i (.fz z))
    | none => .stuck
  | _ => .stuck
def sIf (bs : List Bool) (c : Ev → R Bool) (s t : Env → Out) : Env → Out := fun ρ => onE (fun _ => true) c bs ρ fun b ρ' => if b = true then s ρ' else t ρ'
def forL (t : Tg) (s : Env → Out) : List PV → Env → Out
  | [], ρ => .next ρ
  | v :: vs, ρ => match t v with
    | none => .stuck
    | some as => match s (setS as ρ) with
      | .next ρ' => forL t s vs ρ'
      | .cont ρ' => forL t s vs ρ'
      | .brk ρ' => .next ρ'
      | .ret v => .ret v
      | .exc c fs ρ' => .exc c fs ρ'
      | .stuck => .stuck
def sFor (nl : Bool) (t : Tg) (bs : List Bool) (it : Ev → R (List PV)) (s : Env → Out) : Env → Out := fun ρ => onE (fun _ => nl) it bs ρ fun xs ρ' => forL t s xs ρ'
def wN (bs : List Bool) (c : Ev → R Bool) (s : Env → Out) : Nat → Env → Option Out
  | 0, _ => none
  | n + 1, ρ => match c (vw bs ρ) with
    | .ok false => some (.next ρ)
    | .ok true => match s ρ with
      | .next ρ' => wN bs c s n ρ'
      | .cont ρ' => wN bs c s n ρ'
      | .brk ρ' => some (.next ρ')
      | .ret v => some (.ret v)
      | .exc c fs ρ' => some (.exc c fs ρ')
      | .stuck => some .stuck
    | .exc c fs => some (.exc c fs (fr bs ρ))
    | .stuck => some .stuck
open Classical in
noncomputable def sWhile (bs : List Bool) (c : Ev → R Bool) (s : Env → Out) : Env → Out := fun ρ =>
  if h : ∃ o n, wN bs c s n ρ = some o then h.choose else .stuck
theorem wN_mono {bs : List Bool} {c : Ev → R Bool} {s : Env → Out} : ∀ {n : Nat} {ρ : Env} {o : Out} (k : Nat), wN bs c s n ρ = some o → wN bs c s (n + k) ρ = some o
  | 0, _, _, _, h => by cases h
  | n + 1, ρ, o, k, h => by
    rw [show n + 1 + k = (n + k) + 1 by omega]
    unfold wN at h ⊢
    cases e : c (vw bs ρ) with
    | ok b =>
      rw [e] at h
      cases b with
      | false => exact h
      | true =>
        cases e2 : s ρ with
        | next ρ' => simp only [e2] at h ⊢; exact wN_mono k h
        | cont ρ' => simp only [e2] at h ⊢; exact wN_mono k h
        | brk ρ' => simp only [e2] at h ⊢; exact h
        | ret v => simp only [e2] at h ⊢; exact h
        | exc c' fs ρ' => simp only [e2] at h ⊢; exact h
        | stuck => simp only [e2] at h ⊢; exact h
    | exc c' fs => rw [e] at h; exact h
    | stuck => rw [e] at h; exact h
theorem sWhile_of {bs : List Bool} {c : Ev → R Bool} {s : Env → Out} {ρ : Env} {n : Nat} {o : Out} (h : wN bs c s n ρ = some o) : sWhile bs c s ρ = o := by
  have hx : ∃ o n, wN bs c s n ρ = some o := ⟨o, n, h⟩
  unfold sWhile
  rw [dif_pos hx]
  obtain ⟨m, hm⟩ := hx.choose_spec
  have h1 := wN_mono m h
  have h2 := wN_mono n hm
  rw [Nat.add_comm] at h2
  rw [h1] at h2
  exact (Option.some.inj h2).symm
/-- a while by a measure: what one turn does -/
theorem sWhile_by {bs : List Bool} {c : Ev → R Bool} {s : Env → Out} {Q : Out → Prop} (I : Nat → Env → Prop)
    (turn : ∀ m ρ, I m ρ → (c (vw bs ρ) = .ok false ∧ Q (.next ρ)) ∨ (c (vw bs ρ) = .ok true ∧ ((∃ m' ρ', m' < m ∧ (s ρ = .next ρ' ∨ s ρ = .cont ρ') ∧ I m' ρ') ∨ (∃ ρ', s ρ = .brk ρ' ∧ Q (.next ρ')) ∨ (∃ v, s ρ = .ret v ∧ Q (.ret v)) ∨ ∃ c fs ρ', s ρ = .exc c fs ρ' ∧ Q (.exc c fs ρ'))))
    {m : Nat} {ρ : Env} (h : I m ρ) : Q (sWhile bs c s ρ) := by
  have go : ∀ m ρ, I m ρ → ∃ n o, wN bs c s n ρ = some o ∧ Q o := by
    intro m
    induction m using Nat.strongRecOn with
    | ind m ih =>
      intro ρ h
      rcases turn m ρ h with ⟨e, q⟩ | ⟨e, ⟨m', ρ', hm, es, h'⟩ | ⟨ρ', es, q⟩ | ⟨v, es, q⟩ | ⟨c, fs, ρ', es, q⟩⟩
      · exact ⟨1, _, by unfold wN; rw [e], q⟩
      · obtain ⟨n, o, h1, h2⟩ := ih m' hm ρ' h'
        refine ⟨n + 1, o, ?_, h2⟩
        unfold wN
        rw [e]
        rcases es with es | es <;> (simp only [es]; exact h1)
      · exact ⟨1, _, by unfold wN; simp only [e, es], q⟩
      · exact ⟨1, _, by unfold wN; simp only [e, es], q⟩
      · exact ⟨1, _, by unfold wN; simp only [e, es], q⟩
  obtain ⟨n, o, h1, h2⟩ := go m ρ h
  rw [sWhile_of h1]
  exact h2

section
variable {X : Cx} {cl : Nat → Addr} {W : WX} {He H0 : Hp} {pos : Pos}
abbrev PV1 (X : Cx) (cl : Nat → Addr) (W : WX) (He H0 : Hp) (st : Stmt) (s : Env → Out) : Prop := PS X st (ts X.K cl He H0 W s)
abbrev PVs (X : Cx) (cl : Nat → Addr) (W : WX) (He H0 : Hp) (st : List Stmt) (s : Env → Out) : Prop := PSs X st (ts X.K cl He H0 W s)
variable {st : Stmt} {rest : List Stmt} {s t : Env → Out} {e : Expr} {f : Ex} {bs : List Bool}
theorem vs_nil : PVs X cl W He H0 [] sPass := pssWeak pss_nil fun D σ H ⟨Hs, ρ, S, h⟩ => h σ Hs H (Sub.refl _) S
theorem vs_one (h : PV1 X cl W He H0 st s) : PVs X cl W He H0 [st] s := pss_one h
theorem vs_cons (h : PV1 X cl W He H0 st s) (h' : PVs X cl W He H0 rest t) : PVs X cl W He H0 (st :: rest) (sSeq s t) :=
  pssWeak (pss_cons h h') fun D σ H ⟨Hs, ρ, S, h⟩ => by
    refine ⟨Hs, ρ, S, ?_⟩
    unfold sSeq at h
    cases e : s ρ with
    | next ρ' => rw [e] at h; exact fun σ' Hs' H' up S' => ⟨Hs', ρ', S', Post.up h up⟩
    | brk ρ' => rw [e] at h; exact h
    | cont ρ' => rw [e] at h; exact h
    | ret v => rw [e] at h; exact h
    | exc c fs ρ' => rw [e] at h; exact h
    | stuck => rw [e] at h; exact h
theorem vs_pass : PV1 X cl W He H0 (.Pass pos) sPass := psWeak ps_pass fun D σ H ⟨Hs, ρ, S, h⟩ => h σ Hs H (Sub.refl _) S
theorem vs_doc {x j pos'} : PV1 X cl W He H0 (.Expr (.Constant (.str x) j pos) pos') sPass := psWeak ps_doc fun D σ H ⟨Hs, ρ, S, h⟩ => h σ Hs H (Sub.refl _) S
theorem vs_break : PV1 X cl W He H0 (.Break pos) sBreak := psWeak ps_break fun D σ H ⟨Hs, ρ, S, h⟩ => h σ Hs H (Sub.refl _) S
theorem vs_cont : PV1 X cl W He H0 (.Continue pos) sCont := psWeak ps_continue fun D σ H ⟨Hs, ρ, S, h⟩ => h σ Hs H (Sub.refl _) S
theorem vs_retN : PV1 X cl W He H0 (.Return none pos) sRetN := psWeak ps_retN fun D σ H ⟨Hs, ρ, S, h⟩ => h .non Hs H S.ext .non
theorem vs_expr (he : PE X e (tv X.K cl W f)) (hs : swapsWith e none pos.line X.env = pure false := by rfl) : PV1 X cl W He H0 (.Expr e pos) (sExpr bs f) :=
  psWeak (ps_expr he hs) fun D σ H ⟨Hs, ρ, S, h⟩ => onE_use bears_v S h fun v x Hs1 H1 ρ1 up S1 r _ _ _ hp => hp _ _ _ (Sub.refl _) S1
theorem vs_ret (he : PE X e (tv X.K cl W f)) : PV1 X cl W He H0 (.Return (some e) pos) (sRet bs f) :=
  psWeak (ps_ret he) fun D σ H ⟨Hs, ρ, S, h⟩ => onE_use bears_v S h fun v x Hs1 H1 ρ1 up S1 r _ _ _ hp => hp _ _ _ S1.ext r
theorem vs_set {i : Nat} {x : Str} {p' : Pos} (hN : X.N.Nodup) (he : PE X e (tv X.K cl W f)) (hi : X.N[i]? = some x := by rfl) (hx : Loc X.env.scope x := by first | exact Or.inl rfl | exact Or.inr rfl) (hs : swapsWith e (some (.Name x p')) pos.line X.env = pure false := by rfl) (hf : X.fn x = true ∨ X.env.scope.names.lookup x = some .local := by first | exact .inl rfl | exact .inr rfl | assumption) :
    PV1 X cl W He H0 (.Assign [.Name x p'] e pos) (sSet i bs f) :=
  psWeak (ps_set hN hi hx he hs hf) fun D σ H ⟨Hs, ρ, S, h⟩ => onE_use bears_v S h fun v x Hs1 H1 ρ1 up S1 r _ _ _ hp => hp _ _ _ (Sub.refl _) (S1.set r i)
theorem vs_tg {tg : Expr} {g : TG} {t : Tg} (he : PE X e (tv X.K cl W f)) (hg : PG X tg g) (hG : TgOk X.K cl g t) (hs : swapsWithSole [tg] e pos.line X.env = pure false := by rfl) (hw : swappedStores [tg] e X.env = pure none := by rfl) (h1 : (assignEach [tg] X.env).map (·.2) = [assign tg X.env] := by rfl) :
    PV1 X cl W He H0 (.Assign [tg] e pos) (sTg t bs f) :=
  psWeak (ps_asg he hg hs hw h1) fun D σ H ⟨Hs, ρ, S, h⟩ => onE_use bears_v S h fun v x Hs1 H1 ρ1 up S1 r _ _ _ hp => by
    cases e : t v with
    | none => rw [e] at hp; exact hp.elim
    | some as => rw [e] at hp; exact hG Hs1 H1 σ x v as _ S1.sub r e fun xs rx => hp _ _ _ (Sub.refl _) (S1.sets rx)
theorem vs_par {i j : Nat} {x y : Str} {a b : Expr} {fs : List Ex} {px py pt : Pos} {kt k2 pt2} (hc : X.calm = true) (hN : X.N.Nodup) (ha : PA X [a, b] (ta X.K cl W (evs fs))) (hi : X.N[i]? = some x := by rfl) (hj : X.N[j]? = some y := by rfl) (hij : i ≠ j := by decide)
    (hx : X.env.scope.names.lookup x = some .local := by rfl) (hy : X.env.scope.names.lookup y = some .local := by rfl)
    (hw : swappedStores [.Tuple [.Name x px, .Name y py] kt pt] (.Tuple [a, b] k2 pt2) X.env = pure (some [x, y]) := by rfl)
    (hs : swapsWithSole [.Tuple [.Name x px, .Name y py] kt pt] (.Tuple [a, b] k2 pt2) pos.line X.env = pure false := by rfl) (hl : fs.length = 2 := by rfl) :
    PV1 X cl W He H0 (.Assign [.Tuple [.Name x px, .Name y py] kt pt] (.Tuple [a, b] k2 pt2) pos) (sPar [i, j] bs fs) :=
  psWeak (ps_par hc hN hi hj hij hx hy ha hw hs) fun D σ H ⟨Hs, ρ, S, h⟩ => onE_use bears_a S h fun v xs Hs1 H1 ρ1 up S1 r ev _ _ hp => by
    have l2 : v.length = 2 := by
      have gen : ∀ (gs : List Ex) (ρ : Ev) (vs : List PV), evs gs ρ = .ok vs → vs.length = gs.length := by
        intro gs
        induction gs with
        | nil => intro ρ vs e; cases e; rfl
        | cons g gs ih =>
          intro ρ vs e
          unfold evs at e
          cases e1 : g ρ with
          | ok x =>
            rw [e1] at e
            replace e : (evs gs ρ).bind (fun xs => R.ok (x :: xs)) = .ok vs := e
            cases e2 : evs gs ρ with
            | ok xs => rw [e2] at e; cases e; simp [ih ρ xs e2]
            | exc c f => rw [e2] at e; cases e
            | stuck => rw [e2] at e; cases e
          | exc c f => rw [e1] at e; cases e
          | stuck => rw [e1] at e; cases e
      rw [gen _ _ _ ev, hl]
    match v, l2, r with
    | [v1, v2], _, .cons (v := x1) r1 (.cons (v := x2) r2 .nil) =>
      exact ⟨x1, x2, rfl, hp _ _ _ (Sub.refl _) ((S1.set r1 i).set r2 j)⟩
/-- a made list becomes the def's own -/
theorem onO_use {g : Ev → R (List PV)} {k : List PV → Env → Out} {D : Ends} {Q : VK} {σ : St} {Hs H : Hp} {ρ : Env} {K : PySem.W.Frag} (S : SEnv K cl He H0 Hs H σ ρ) (h : Post K cl He H0 W Hs D (onO g bs ρ k))
    (hk : ∀ xs a vs Hs1 H1 ρ1, Sub Hs Hs1 → SEnv K cl He H0 Hs1 H1 σ ρ1 → H1 a = some (.lst vs) → RpA K cl Hs1 vs xs → Hs1 a = none → H0 a = none → (∀ (j : Nat) (ys : List PV), ρ1[j]? = some (Sl.own ys) → σ[j]? ≠ some (some (V.ref a))) → Post K cl He H0 W Hs1 D (k xs ρ1) → Q (.ref a) H1) : to K cl W g σ H Q := by
  refine ⟨_, _, S.pe bs, ?_⟩
  unfold onO at h
  have s1 := (S.plusExt bs).1
  have hH0 : ∀ {a : Addr}, H a = none → H0 a = none := fun {a} n => by
    cases q : H0 a with
    | none => rfl
    | some o => rw [S.ext.same a o q] at n; cases n
  have hnew : ∀ {a : Addr}, H a = none → ∀ (j : Nat) (ys : List PV), ρ[j]? = some (Sl.own ys) → σ[j]? ≠ some (some (V.ref a)) := fun {a} n j ys e z => by
    obtain ⟨b, vs, e1, e2, _⟩ := S.own j ys e
    rw [z] at e1
    cases e1
    rw [n] at e2; cases e2
  cases e : g (vw bs ρ) with
  | ok xs =>
    rw [e] at h
    replace h : Post K cl He H0 W Hs D (k xs (settle bs (PV.nols xs) ρ)) := h
    intro a vs Hs1 H1 X e1 n1 n2 r
    cases en : PV.nols xs with
    | false =>
      have es : settle bs (PV.nols xs) ρ = fr bs ρ := by unfold settle; rw [en]; rfl
      have up := s1.trans X.fs
      rw [es] at h
      exact hk xs a vs Hs1 H1 _ up (S.froze X) e1 r n1 (hH0 n2) (fun j ys e => hnew n2 j ys (fr_own e).1) (Post.up h up)
    | true =>
      have es : settle bs (PV.nols xs) ρ = ρ := by unfold settle; rw [en]; rfl
      obtain ⟨S1, up⟩ := S.back X
      rw [es] at h
      have nP : ¬ isOwn bs ρ σ a := fun p => by
        obtain ⟨vs, q⟩ := (S.ownAt p).1
        rw [n2] at q; cases q
      refine hk xs a vs _ H1 _ up S1 e1 (r.nolist ⟨fun b p => ?_⟩ en) (by rw [cut_no nP]; exact n1) (hH0 n2) (hnew n2) (Post.up h up)
      obtain ⟨us, e2⟩ := (S.ownAt p).1
      exact ⟨us, X.fs _ _ (by rw [plus_yes p]; exact e2)⟩
  | exc c fs =>
    rw [e] at h
    intro d fvs Hs1 H1 X e1 r
    exact h σ Hs1 H1 d fvs (s1.trans X.fs) (S.froze X) e1 r
  | stuck => rw [e] at h; exact h
theorem vs_own {i : Nat} {x : Str} {p' : Pos} {g : Ev → R (List PV)} (hN : X.N.Nodup) (he : PE X e (to X.K cl W g)) (hi : X.N[i]? = some x := by rfl) (hx : Loc X.env.scope x := by first | exact Or.inl rfl | exact Or.inr rfl) (hs : swapsWith e (some (.Name x p')) pos.line X.env = pure false := by rfl) (hf : X.fn x = true ∨ X.env.scope.names.lookup x = some .local := by first | exact .inl rfl | exact .inr rfl | assumption) :
    PV1 X cl W He H0 (.Assign [.Name x p'] e pos) (sOwn i bs g) :=
  psWeak (ps_set hN hi hx he hs hf) fun D σ H ⟨Hs, ρ, S, h⟩ => onO_use S h fun xs a vs Hs1 H1 ρ1 up S1 e1 r n1 n0 new hp => hp _ _ _ (Sub.refl _) (S1.setOwn e1 r n1 n0 new i)
/-! a comprehension given to a name -/
section
variable {rel : Hp → It → List PV → Prop} {elt tg iter : Expr} {ifs : List Expr} {scope : Scope} {own : List (Str × Nat)} {it : Ev → R (List PV)} {g : TG} {t : Tg} {c : Ev → R Bool} {e : Ex} {i : Nat} {y : Str} {py p2 : Pos}
theorem vs_ownLc (hc : X.calm = true) (hN : X.N.Nodup) (hi : PI X tg iter (gv X.K cl rel W it)) (hR : ∀ Hs J xs, rel Hs J xs → Wk X.K cl Hs J xs)
    (ok : BlkOk X.N X.env.scope scope own) (hG : TgOk X.K cl g t) (hI : TgIn t (own.map (·.2)))
    (hg : ∀ (s : Shared) (H : Hp) (C : Addr) (cl : List (Str × Addr)) (fp : List Addr), PG (X.blk s H scope (compEnvC scope cl C X.env) fp) tg g) (ht : ∀ (s : Shared) (H : Hp) (C : Addr) (cl' : List (Str × Addr)) (fp : List Addr), PTs (X.blk s H scope (compEnvC scope cl' C X.env) fp) ifs (tt X.K cl W0 c))
    (he : ∀ (s : Shared) (H : Hp) (C : Addr) (cl' : List (Str × Addr)) (fp : List Addr), PE (X.blk s H scope (compEnvC scope cl' C X.env) fp) elt (tv X.K cl W0 e)) (hs : ∀ x, foldedSetIterable iter X.env x = pure x := by intro _; rfl)
    (hy : X.N[i]? = some y := by rfl) (hyl : X.env.scope.names.lookup y = some .local := by rfl) (hsw : swapsWith (.ListComp elt [⟨tg, iter, ifs, 0⟩] scope p2) (some (.Name y py)) pos.line X.env = pure true := by rfl) :
    PV1 X cl W He H0 (.Assign [.Name y py] (.ListComp elt [⟨tg, iter, ifs, 0⟩] scope p2) pos) (sOwn i bs (eLc (own.map (·.2)) t it c e)) :=
  psWeak (ps_setLc hc hN hy hyl hsw hi ok hg ht he hs) fun D σ H ⟨Hs, ρ, S, h⟩ => lc_use hR hG hI (onO_use S h fun xs a vs Hs1 H1 ρ1 up S1 e1 r n1 n0 new hp => hp _ _ _ (Sub.refl _) (S1.setOwn e1 r n1 n0 new i))
theorem onO_asLst {g : Ev → R (List PV)} {k : PV → Env → Out} {ρ : Env} {D : Ends} {Hs : Hp} {K : PySem.W.Frag} {σ : St} {H : Hp} {Q : VK} (S : SEnv K cl He H0 Hs H σ ρ) (h : Post K cl He H0 W Hs D (onE PV.nol (asLst g) bs ρ k))
    (hk : ∀ v x Hs1 H1 ρ1, Sub Hs Hs1 → SEnv K cl He H0 Hs1 H1 σ ρ1 → Rp K cl Hs1 x v → Post K cl He H0 W Hs1 D (k v ρ1) → Q x H1) : to K cl W g σ H Q := by
  refine ⟨_, _, S.pe bs, ?_⟩
  unfold onE asLst at h
  have s1 := (S.plusExt bs).1
  cases e : g (vw bs ρ) with
  | ok xs =>
    rw [e] at h
    replace h : Post K cl He H0 W Hs D (k (.lst xs) (fr bs ρ)) := h
    intro a vs Hs1 H1 X e1 n1 n2 r
    have X2 : Ext (plus (isOwn bs ρ σ) Hs H) H (upd Hs1 a (.lst vs)) H1 := ⟨X.fs.trans (Sub.new n1), fun b o q => by
      by_cases hb : b = a
      · subst hb; rw [upd_same] at q; rw [e1]; exact q
      · rw [upd_ne hb] at q; exact X.sub b o q, X.same, fun b hb n => by
      rw [upd_ne (fun z => hb (by rw [z]; exact n2))]
      exact X.nw b hb n⟩
    have up := s1.trans X2.fs
    exact hk _ (.ref a) _ H1 _ up (S.froze X2) (.lst upd_same (r.mono (Sub.new n1))) (Post.up h up)
  | exc c fs =>
    rw [e] at h
    intro d fvs Hs1 H1 X e1 r
    exact h σ Hs1 H1 d fvs (s1.trans X.fs) (S.froze X) e1 r
  | stuck => rw [e] at h; exact h
theorem vs_setLc (hc : X.calm = true) (hN : X.N.Nodup) (hi : PI X tg iter (gv X.K cl rel W it)) (hR : ∀ Hs J xs, rel Hs J xs → Wk X.K cl Hs J xs)
    (ok : BlkOk X.N X.env.scope scope own) (hG : TgOk X.K cl g t) (hI : TgIn t (own.map (·.2)))
    (hg : ∀ (s : Shared) (H : Hp) (C : Addr) (cl : List (Str × Addr)) (fp : List Addr), PG (X.blk s H scope (compEnvC scope cl C X.env) fp) tg g) (ht : ∀ (s : Shared) (H : Hp) (C : Addr) (cl' : List (Str × Addr)) (fp : List Addr), PTs (X.blk s H scope (compEnvC scope cl' C X.env) fp) ifs (tt X.K cl W0 c))
    (he : ∀ (s : Shared) (H : Hp) (C : Addr) (cl' : List (Str × Addr)) (fp : List Addr), PE (X.blk s H scope (compEnvC scope cl' C X.env) fp) elt (tv X.K cl W0 e)) (hs : ∀ x, foldedSetIterable iter X.env x = pure x := by intro _; rfl)
    (hy : X.N[i]? = some y := by rfl) (hyl : X.env.scope.names.lookup y = some .local := by rfl) (hsw : swapsWith (.ListComp elt [⟨tg, iter, ifs, 0⟩] scope p2) (some (.Name y py)) pos.line X.env = pure true := by rfl) :
    PV1 X cl W He H0 (.Assign [.Name y py] (.ListComp elt [⟨tg, iter, ifs, 0⟩] scope p2) pos) (sSet i bs (asLst (eLc (own.map (·.2)) t it c e))) :=
  psWeak (ps_setLc hc hN hy hyl hsw hi ok hg ht he hs) fun D σ H ⟨Hs, ρ, S, h⟩ => lc_use hR hG hI (onO_asLst S h fun v x Hs1 H1 ρ1 up S1 r hp => hp _ _ _ (Sub.refl _) (S1.set r i))
end

/-! changing an own list -/
theorem getO_set {ρ : Env} {i : Nat} {xs : List PV} (h : getO ρ i = some xs) : ρ[i]? = some (.own xs) := getO_eq h
/-- the method's rule, by its reading -/
def MetOk (K : PySem.W.Frag) (cl : Nat → Addr) (r : V → List V → Hp → VK → Prop) (g : List PV → List PV → Option (List PV)) : Prop :=
  ∀ (Hs H : Hp) (a : Addr) (vs us : List V) (xs ws ys : List PV) (Q : VK), Sub Hs H → H a = some (.lst vs) → Hs a = none → RpA K cl Hs vs xs → RpA K cl Hs us ws → g xs ws = some ys → (∀ zs, RpA K cl Hs zs ys → Q .non (upd H a (.lst zs))) → r (.ref a) us H Q
theorem met_app {K : PySem.W.Frag} : MetOk K cl rAppend mApp := fun Hs H a vs us xs ws ys Q s e n r ru h q => by
  cases ru with
  | nil => cases h
  | cons r1 t =>
    cases t with
    | cons _ _ => cases h
    | nil =>
      replace h : (if xs.length < sizeLine then some (xs ++ [_]) else none) = some ys := h
      split at h
      · cases h; exact ⟨a, vs, _, rfl, rfl, e, by rw [r.length]; assumption, q _ (r.append (.cons r1 .nil))⟩
      · cases h
theorem met_ext {K : PySem.W.Frag} : MetOk K cl rExtend mExt := fun Hs H a vs us xs ws ys Q s e n r ru h q => by
  cases ru with
  | nil => cases h
  | cons r1 t =>
    cases t with
    | cons _ _ => cases r1 <;> cases h
    | nil =>
      cases r1 with
      | @lst b zs ys' hb rb =>
        replace h : (if xs.length + ys'.length ≤ sizeLine then some (xs ++ ys') else none) = some ys := h
        split at h
        · cases h; exact ⟨a, b, vs, zs, rfl, rfl, e, s _ _ hb, by rw [r.length, rb.length]; assumption, q _ (r.append rb)⟩
        · cases h
      | _ => cases h
def rInsert : V → List V → Hp → VK → Prop := fun x vs H Q => ∃ (l : Addr) (xs : List V) (i : Int) (y : V), x = .ref l ∧ vs = [.int i, y] ∧ H l = some (.lst xs) ∧ xs.length < sizeLine ∧ 0 ≤ i ∧ i < 2 ^ 63 ∧ Q .non (upd H l (.lst (xs.take i.toNat ++ [y] ++ xs.drop i.toNat)))
theorem met_ins {K : PySem.W.Frag} : MetOk K cl rInsert mIns := fun Hs H a vs us xs ws ys Q s e n r ru h q => by
  cases ru with
  | nil => cases h
  | cons r1 t =>
    cases t with
    | nil => cases r1 <;> cases h
    | cons r2 t =>
      cases t with
      | cons _ _ => cases r1 <;> cases h
      | nil =>
        cases r1 with
        | int i =>
          replace h : (if xs.length < sizeLine ∧ 0 ≤ i ∧ i < 2 ^ 63 then some (xs.take i.toNat ++ [_] ++ xs.drop i.toNat) else none) = some ys := h
          split at h
          · rename_i hk
            cases h
            exact ⟨a, vs, i, _, rfl, rfl, e, by rw [r.length]; exact hk.1, hk.2.1, hk.2.2, q _ (((r.take _).append (.cons r2 .nil)).append (r.drop _))⟩
          · cases h
        | _ => cases h
theorem vs_met {i : Nat} {x : Str} {px apos cpos : Pos} {name : Str} {id : String} {r : V → List V → Hp → VK → Prop} {g : List PV → List PV → Option (List PV)} {es : List Expr} {fs : List Ex} (slot : Slot "list" name id) (hty : typeOf (.builtin id) = pure (.type "method_descriptor")) (hm : MtR X id r) (hg : MetOk X.K cl r g)
    (ha : PA X (e :: es) (ta X.K cl W (evs fs))) (hi : X.N[i]? = some x := by rfl) (hv : Vis X.env.scope x := by first | exact Or.inl rfl | exact Or.inr (Or.inl rfl) | exact Or.inr (Or.inr rfl)) (hd : (x == ("__debug__" : Str)) = false := by decide) (hcd : (x == ("__classdict__" : Str)) = false := by decide)
    (hbase : attributeBase (.Name x px) name X.env (eval (.Name x px) X.env) = eval (.Name x px) X.env := by rfl)
    (hfew : ((backTo cpos (starEach (e :: es) X.env)).all (fun x => !x.1) && (backToKw cpos (keywordEach [] X.env)).all (fun x => x.1.isSome)
      && decide ((e :: es).length + ([] : List Keyword).length + (if ([] : List Keyword).isEmpty then 0 else 1) < 30)) = true := by rfl)
    (hline : (apos.endLine == cpos.line) = true := by rfl) (hs : starEach (e :: es) X.env = (false, eval e X.env) :: starEach es X.env := by rfl) (hplain : (backTo cpos (starEach es X.env)).any (·.1) = false := by rfl)
    (hsw : swapsWith (.Call (.Attribute (.Name x px) name apos) (e :: es) [] cpos) none pos.line X.env = pure false := by rfl) :
    PV1 X cl W He H0 (.Expr (.Call (.Attribute (.Name x px) name apos) (e :: es) [] cpos) pos) (sMet i g bs fs) :=
  psWeak (ps_expr (pe_bm PySem.F.plainAttrs_list slot hty hm (pe_var hi hv hd hcd) ha hbase hfew hline hs hplain) hsw) fun D σ H ⟨Hs, ρ, S, h⟩ => by
    unfold sMet at h
    cases e0 : getO ρ i with
    | none => rw [e0] at h; exact h.elim
    | some xs0 =>
      rw [e0] at h
      obtain ⟨a, vs, h1, h2, _⟩ := S.own i xs0 (getO_eq e0)
      refine ⟨_, h1, .inl ⟨rfl, vs, .of h2⟩, ?_⟩
      refine onE_use bears_a S h fun ws us Hs1 H1 ρ1 up S1 ru ev e1 sm hp => ?_
      cases e2 : getO ρ1 i with
      | none => rw [e2] at hp; exact hp.elim
      | some xs =>
        rw [e2] at hp
        cases e3 : g xs ws with
        | none => simp only [e3] at hp; exact hp.elim
        | some ys =>
          simp only [e3] at hp
          obtain ⟨b, vs2, g1, g2, g3, g4, g5⟩ := S1.own i xs (getO_eq e2)
          rw [h1] at g1
          cases g1
          exact hg Hs1 H1 a vs2 us xs ws ys _ S1.sub g2 g4 g3 ru e3 fun zs rz => hp _ _ _ (Sub.refl _) (S1.put (getO_eq e2) h1 rz)
/-- x[i] = e -/
theorem vs_put {i : Nat} {x : Str} {px p2 : Pos} {ie : Expr} {fi : Ex} (he : PE X e (tv X.K cl W f)) (hie : PE X ie (tv X.K cl W fi)) (hi : X.N[i]? = some x := by rfl) (hv : Vis X.env.scope x := by first | exact Or.inl rfl | exact Or.inr (Or.inl rfl) | exact Or.inr (Or.inr rfl)) (hd : (x == ("__debug__" : Str)) = false := by decide) (hcd : (x == ("__classdict__" : Str)) = false := by decide)
    (ha : ∀ v, assign (.Subscript (.Name x px) ie p2) X.env v = (do
      let ov ← holding [v] (eval (.Name x px) X.env)
      let iv ← holding [v, ov] (eval ie X.env)
      standAt p2
      holding [v, ov, iv] (setItem ov iv v)
      release [v, ov, iv] []) := by intro _; rfl) (hs : swapsWithSole [.Subscript (.Name x px) ie p2] e pos.line X.env = pure false := by rfl) (hw : swappedStores [.Subscript (.Name x px) ie p2] e X.env = pure none := by rfl) (h1 : (assignEach [.Subscript (.Name x px) ie p2] X.env).map (·.2) = [assign (.Subscript (.Name x px) ie p2) X.env] := by rfl) :
    PV1 X cl W He H0 (.Assign [.Subscript (.Name x px) ie p2] e pos) (sPut i bs f fi) :=
  psWeak (ps_asg he (pg_sub (pe_var hi hv hd hcd) hie set_list ha) hs hw h1) fun D σ H ⟨Hs, ρ, S, h⟩ => by
    refine onE_use bears_v S h fun v xv Hs1 H1 ρ1 up S1 r _ _ _ hp => ?_
    cases e0 : getO ρ1 i with
    | none => rw [e0] at hp; exact hp.elim
    | some xs0 =>
      rw [e0] at hp
      obtain ⟨a, vs, h1, h2, _⟩ := S1.own i xs0 (getO_eq e0)
      refine ⟨_, h1, ?_⟩
      refine onE_use bears_v S1 hp fun k kv Hs2 H2 ρ2 up2 S2 rk _ _ _ hp2 => ?_
      cases e2 : getO ρ2 i with
      | none => rw [e2] at hp2; exact hp2.elim
      | some xs =>
        rw [e2] at hp2
        cases rk with
        | int z =>
          cases e3 : ixN xs.length z with
          | none => simp only [e3] at hp2; exact hp2.elim
          | some j =>
            simp only [e3] at hp2
            obtain ⟨b, vs2, g1, g2, g3, g4, g5⟩ := S2.own i xs (getO_eq e2)
            rw [h1] at g1
            cases g1
            exact ⟨a, vs2, z, j, rfl, rfl, g2, by rw [g3.length]; exact e3, hp2 _ _ _ (Sub.refl _) (S2.put (getO_eq e2) h1 (RpA.set (r.mono up2) j g3))⟩
        | _ => exact hp2.elim
theorem vs_pop {i : Nat} {x : Str} {px apos cpos : Pos} {tg : Expr} {g : TG} {t : Tg} (hg : PG X tg g) (hG : TgOk X.K cl g t) (hi : X.N[i]? = some x := by rfl) (hv : Vis X.env.scope x := by first | exact Or.inl rfl | exact Or.inr (Or.inl rfl) | exact Or.inr (Or.inr rfl)) (hd : (x == ("__debug__" : Str)) = false := by decide) (hcd : (x == ("__classdict__" : Str)) = false := by decide)
    (hbase : attributeBase (.Name x px) "pop" X.env (eval (.Name x px) X.env) = eval (.Name x px) X.env := by rfl) (hline : (apos.endLine == cpos.line) = true := by rfl)
    (hs : swapsWithSole [tg] (.Call (.Attribute (.Name x px) "pop" apos) [] [] cpos) pos.line X.env = pure false := by rfl) (hw : swappedStores [tg] (.Call (.Attribute (.Name x px) "pop" apos) [] [] cpos) X.env = pure none := by rfl) (h1 : (assignEach [tg] X.env).map (·.2) = [assign tg X.env] := by rfl) :
    PV1 X cl W He H0 (.Assign [tg] (.Call (.Attribute (.Name x px) "pop" apos) [] [] cpos) pos) (sPop i t) :=
  psWeak (ps_asg (pe_bm0 PySem.F.plainAttrs_list PySem.F.slot_list_pop PySem.F.type_list_pop mt_pop (pe_var hi hv hd hcd) hbase hline) hg hs hw h1) fun D σ H ⟨Hs, ρ, S, h⟩ => by
    unfold sPop at h
    cases e0 : getO ρ i with
    | none => rw [e0] at h; exact h.elim
    | some xs =>
      rw [e0] at h
      obtain ⟨a, vs, h1, h2, h3, h4, h5⟩ := S.own i xs (getO_eq e0)
      refine ⟨_, h1, .inl ⟨rfl, vs, .of h2⟩, ?_⟩
      cases e1 : xs[xs.length - 1]? with
      | none => simp only [e1] at h; exact h.elim
      | some v =>
        simp only [e1] at h
        cases e2 : t v with
        | none => simp only [e2] at h; exact h.elim
        | some as =>
          simp only [e2] at h
          obtain ⟨y, g1, g2⟩ := h3.get e1
          have dl : RpA X.K cl Hs vs.dropLast xs.dropLast := by
            rw [List.dropLast_eq_take, List.dropLast_eq_take, h3.length]
            exact h3.take _
          have S2 := S.put (getO_eq e0) h1 dl
          exact ⟨a, vs, y, rfl, rfl, h2, by rw [h3.length]; exact g1, hG Hs _ σ y v as _ S2.sub g2 e2 fun us ru => h _ _ _ (Sub.refl _) (S2.sets ru)⟩
/-- name op= e -/
theorem vs_aug {i : Nat} {x : Str} {op : Operator} {r : R2} {g : PV → PV → Option PV} {p' : Pos} (ho : OpR X (inplaceOp op) r) (hg : OpV X.K cl r g) (hN : X.N.Nodup) (he : PE X e (tv X.K cl W f)) (hi : X.N[i]? = some x := by rfl) (hx : Loc X.env.scope x := by first | exact Or.inl rfl | exact Or.inr rfl) (hf : X.fn x = true ∨ X.env.scope.names.lookup x = some .local := by first | exact .inl rfl | exact .inr rfl | assumption) :
    PV1 X cl W He H0 (.AugAssign (.Name x p') op e pos) (sAug i g bs f) :=
  psWeak (ps_aug hN hi hx he ho hf) fun D σ H ⟨Hs, ρ, S, h⟩ => by
    unfold sAug at h
    split at h
    · rename_i v e0
      obtain ⟨y, h1, h2⟩ := S.fz i v e0
      refine ⟨y, h1, onE_use bears_v S h fun u w Hs1 H1 ρ1 up S1 ru _ _ _ hp => ?_⟩
      cases e1 : g v u with
      | none => simp only [e1] at hp; exact hp.elim
      | some z =>
        simp only [e1] at hp
        exact hg W σ Hs1 H1 y w v u z _ S1.sub (h2.mono up) ru e1 fun zz Hs2 H2 x2 rz => hp _ _ _ x2.fs (SEnv.set ⟨S1.ext.trans x2, S1.len, fun j v' e => let ⟨q, a1, a2⟩ := S1.fz j v' e; ⟨q, a1, a2.mono x2.fs⟩, fun j ys e => let ⟨q, a0, a1, a2, a3, a4, a5⟩ := S1.own j ys e; ⟨q, a0, a1, x2.same _ _ a2, a3.mono x2.fs, x2.nw q (by rw [a2]; simp) a4, a5⟩, S1.inj⟩ rz i)
    · exact h.elim
theorem vs_if {c : Expr} {a b : List Stmt} {cc : Ev → R Bool} (hc : PT X c (tt X.K cl W cc)) (ha : PVs X cl W He H0 a s) (hb : PVs X cl W He H0 b t) : PV1 X cl W He H0 (.If c a b pos) (sIf bs cc s t) :=
  psWeak (ps_if hc ha hb) fun D σ H ⟨Hs, ρ, S, h⟩ => onE_use bears_b S h fun v x Hs1 H1 ρ1 up S1 r _ _ _ hp => by
    subst r
    cases x with
    | true => rw [if_pos rfl] at hp ⊢; exact ⟨Hs1, ρ1, S1, hp⟩
    | false => rw [if_neg Bool.false_ne_true] at hp ⊢; exact ⟨Hs1, ρ1, S1, hp⟩
theorem vs_while {c : Expr} {body : List Stmt} {cc : Ev → R Bool} (hp : PassesOwn (model X.prog X.w) X.A X.env X.xe) (hc : PT X c (tt X.K cl W cc)) (hb : PVs X cl W He H0 body s) : PV1 X cl W He H0 (.While c body [] pos) (sWhile bs cc s) :=
  psWeak (ps_while hp hc hb) fun D σ H ⟨Hs, ρ, S, h⟩ => by
    have hx : ∃ n o, wN bs cc s n ρ = some o ∧ Post X.K cl He H0 W Hs D o := by
      unfold sWhile at h
      split at h
      · rename_i hx
        obtain ⟨n, e⟩ := hx.choose_spec
        exact ⟨n, _, e, h⟩
      · exact h.elim
    obtain ⟨n0, o0, e0, p0⟩ := hx
    refine ⟨fun m σ H => ∃ Hs1 ρ o, Sub Hs Hs1 ∧ SEnv X.K cl He H0 Hs1 H σ ρ ∧ wN bs cc s m ρ = some o ∧ Post X.K cl He H0 W Hs1 D o, ⟨n0, Hs, ρ, o0, Sub.refl _, S, e0, p0⟩, ?_⟩
    rintro m σ H ⟨Hs1, ρ, o, up, S, e, p⟩
    cases m with
    | zero => cases e
    | succ m =>
      -- the test
      have key : Post X.K cl He H0 W Hs1 { nx := fun σ' H' => False, rt := D.rt, bk := D.bk, ct := D.ct } (onE (fun _ => true) cc bs ρ fun b ρ' => .stuck) ∨ ∃ b, cc (vw bs ρ) = .ok b := by
        unfold wN at e
        cases ec : cc (vw bs ρ) with
        | ok b => exact .inr ⟨b, rfl⟩
        | exc c fs =>
          simp only [ec] at e
          cases e
          refine .inl ?_
          unfold onE
          rw [ec]
          exact p
        | stuck => simp only [ec] at e; cases e; exact p.elim
      rcases key with key | ⟨b, ec⟩
      · exact onE_use (Q := fun b H1 => if b = true then _ else _) bears_b S key fun v x Hs2 H2 ρ2 _ _ _ _ _ _ z => z.elim
      · have S' := S
        refine ⟨_, _, S.pe bs, ?_⟩
        rw [ec]
        intro b' Hs2 H2 x2 eb
        subst eb
        obtain ⟨S2, up2⟩ := S.back x2
        unfold wN at e
        simp only [ec] at e
        cases b' with
        | false =>
          simp only at e
          cases e
          rw [if_neg Bool.false_ne_true]
          exact p _ _ _ up2 S2
        | true =>
          simp only at e
          rw [if_pos rfl]
          refine ⟨fun σ H => ∃ Hs1 ρ o, Sub Hs Hs1 ∧ SEnv X.K cl He H0 Hs1 H σ ρ ∧ wN bs cc s m ρ = some o ∧ Post X.K cl He H0 W Hs1 D o, fun σ' H' h => ⟨m, Nat.lt_succ_self m, h⟩, ?_⟩
          refine ⟨_, ρ, S2, ?_⟩
          have p2 := Post.up p up2
          cases es : s ρ with
          | next ρ' => simp only [es] at e; exact fun σ' Hs' H' up' S' => ⟨Hs', ρ', o, (up.trans up2).trans up', S', e, Post.up p2 up'⟩
          | cont ρ' => simp only [es] at e; exact fun σ' Hs' H' up' S' => ⟨Hs', ρ', o, (up.trans up2).trans up', S', e, Post.up p2 up'⟩
          | brk ρ' => simp only [es] at e; cases e; exact p2
          | ret v => simp only [es] at e; cases e; exact p2
          | exc c fs ρ' => simp only [es] at e; cases e; exact p2
          | stuck => simp only [es] at e; cases e; exact p2.elim
theorem vs_for {rel : Hp → It → List PV → Prop} {nl : Bool} {tg iter : Expr} {body : List Stmt} {it : Ev → R (List PV)} {g : TG} {t : Tg} (hp : PassesOwn (model X.prog X.w) X.A X.env X.xe) (hc : X.calm = true) (B : Bears X.K cl rel (fun _ => nl)) (hR : ∀ Hs J xs, rel Hs J xs → Wk X.K cl Hs J xs) (hi : PI X tg iter (gv X.K cl rel W it)) (hg : PG X tg g) (hG : TgOk X.K cl g t) (hb : PVs X cl W He H0 body s)
    (hs : ∀ x, foldedSetIterable iter X.env x = pure x := by intro _; rfl) : PV1 X cl W He H0 (.For tg iter body [] pos) (sFor nl t bs it s) :=
  psWeak (ps_for hp hc hi hg hb hs) fun D σ H ⟨Hs, ρ, S, h⟩ => onE_use B S h fun xs J Hs1 H1 ρ1 up S1 rx _ _ _ hp => by
    have Wj := hR _ _ _ rx
    refine ⟨fun i m σ H => ∃ Hs2 ρ, i + m = xs.length ∧ Sub Hs1 Hs2 ∧ SEnv X.K cl He H0 Hs2 H σ ρ ∧ Post X.K cl He H0 W Hs2 D (forL t s (xs.drop i) ρ), ⟨xs.length, Hs1, ρ1, by omega, Sub.refl _, S1, by simpa using hp⟩, ?_⟩
    rintro i m σ H ⟨Hs2, ρ, em, up2, S2, hp⟩
    by_cases hi : i < xs.length
    · refine .inr ⟨Wj.go i H Hs2 up2 S2.sub hi, fun σ' H' => ∃ Hs2 ρ, Sub Hs1 Hs2 ∧ SEnv X.K cl He H0 Hs2 H' σ' ρ ∧ Post X.K cl He H0 W Hs2 D (forL t s (xs.drop (i + 1)) ρ), fun σ' H' ⟨Hs3, ρ3, q⟩ => ⟨m - 1, by omega, Hs3, ρ3, by omega, q⟩, fun x H' hy => ?_⟩
      have ev : xs[i]? = some xs[i] := List.getElem?_eq_getElem hi
      obtain ⟨Hs3, x3, rx3⟩ := Wj.yld i x H H' Hs2 xs[i] up2 S2.sub ev hy
      have S3 : SEnv X.K cl He H0 Hs3 H' σ ρ := ⟨S2.ext.trans x3, S2.len, fun j v' e => let ⟨q, a1, a2⟩ := S2.fz j v' e; ⟨q, a1, a2.mono x3.fs⟩, fun j ys e => let ⟨q, a0, a1, a2, a3, a4, a5⟩ := S2.own j ys e; ⟨q, a0, a1, x3.same _ _ a2, a3.mono x3.fs, x3.nw q (by rw [a2]; simp) a4, a5⟩, S2.inj⟩
      rw [List.drop_eq_getElem_cons hi] at hp
      unfold forL at hp
      cases et : t xs[i] with
      | none => rw [et] at hp; exact hp.elim
      | some as =>
        simp only [et] at hp
        refine hG Hs3 H' σ x xs[i] as _ x3.sub rx3 et fun vs rv => ?_
        refine ⟨Hs3, _, S3.sets rv, ?_⟩
        have hp3 := Post.up hp x3.fs
        have up13 := up2.trans x3.fs
        cases es : s (setS as ρ) with
        | next ρ' => simp only [es] at hp3; exact fun σ' Hs' H' up' S' => ⟨Hs', ρ', up13.trans up', S', Post.up hp3 up'⟩
        | cont ρ' => simp only [es] at hp3; exact fun σ' Hs' H' up' S' => ⟨Hs', ρ', up13.trans up', S', Post.up hp3 up'⟩
        | brk ρ' => simp only [es] at hp3; exact hp3
        | ret v => simp only [es] at hp3; exact hp3
        | exc c fs ρ' => simp only [es] at hp3; exact hp3
        | stuck => simp only [es] at hp3; exact hp3.elim
    · have hz : xs.drop i = [] := List.drop_of_length_le (by omega)
      rw [hz] at hp
      exact .inl ⟨Wj.stop i H Hs2 up2 S2.sub (by omega), hp _ _ _ (Sub.refl _) S2⟩
end
end VL
namespace VL
open PySem PySem.Spec PyProof.Rows L2
open PySem.W (KxsFacts kxs_mw KxsAt kxs_callWith kxs_getMethod kxs_ValueError check_bound_init InstAt)
/-! ### own errors: an __init__ that begins with super().__init__(..) -/
/-- the bound built-in __init__, called -/
theorem mw_call {prog : Program} {w : World} {A : Around} {E : Value → Shared → Prop} {hp : Heap} {gs : Array GenState} {dr : Drawn} {tk : Nat} {os : OsState} {nm qn : Str} {C N : Addr} {bs bm : List Value} {hd : Bool} {sn : List Str} {sb : List Value} {ab : Bool} {co : Option Bool} {dd : Option Addr} {k0 k1 k2 k3 k5 : Option Value} {u x t0 : Addr} {us : List Value} {Q : Value → Shared → Prop}
    (cls : hp.get? C = some (excClassObj nm qn C N bs bm hd sn sb ab co dd k0 k1 k2 k3 k5 "ValueError.__new__")) (hx : hp.get? x = some (PySem.HandSPX.excO C t0)) (hu : hp.get? u = some (kxs_mw "ValueError.__init__" x)) (few : us.length ≤ sizeLine)
    (fin : ∀ hq t1, (∀ b o, b ≠ x → hp.get? b = some o → hq.get? b = some o) → hq.get? x = some (PySem.HandSPX.excO C t1) → Q .none ⟨hq, gs, dr, tk, os⟩) :
    wpAny (model prog w) A (call (.ref u) us) Q E ⟨hp, gs, dr, tk, os⟩ := by
  have FB := PySem.F.excBase_ValueError
  refine wpAny_call (codeAny_of_tree ?_)
  show wpAny (model prog w) A.in1 (callAny (.ref u) ⟨us, []⟩) _ _ ⟨hp, gs, dr, tk, os⟩
  unfold callAny
  refine wpAny_bind (wpAny_load hu ?_)
  have e1 : ((Value.type "method-wrapper" == Value.type "method" || Value.type "method-wrapper" == Value.type "builtin_function_or_method") || Value.type "method-wrapper" == Value.type "method-wrapper") = true := by decide
  simp only [kxs_mw, e1, ite_true]
  refine PySem.W.KFB.if_so (by decide) ?_
  refine wpAny_bind (check_bound_init FB.toExcCallFacts cls hx rfl ?_)
  refine wpAny_bind (wpAny_pure (wpAny_pure ⟨plainId_quiet FB.init.plain _, codeAny_builtin FB.initEntry ?_⟩))
  exact PySem.W.exc_init_tree (cls := .ref C) (t0 := t0) (dv := none) (c2 := .none) (c3 := .none) (b4 := .bool false) hx few fun hq k e _ => fin hq _ k e

/-- what the written part says of an own error's class, at C, whose __init__ (at fI, its cell at cc, its code at cda) begins with super().__init__ -/
structure ExC (K : PySem.W.Frag) (P : Program) (C fI cc cda : Addr) (qual : Str) (sI : Stmt) : Prop where
  base : OexC K C
  fn : ∃ (oc : Value) (od : Option Addr) (kV doc pm : Value) (an : Option Addr) (ct : Value) (osl : Array (Option Value)), K.lookup fI = some ⟨oc, od, .func (PySem.W.ksFn "__init__" qual (defArgs sI) (defBody sI) (defScope sI) .none kV doc pm an (.ref cda) ct cc), osl⟩
  code : PySem.W.codeIn K (.ref cda) qual = true
  file : ∃ (oc : Value) (od : Option Addr) (vs : Array Value) (osl : Array (Option Value)) (f : Str) (tf : Tok), K.lookup cda = some ⟨oc, od, .fields vs, osl⟩ ∧ vs[2]? = some (.str f tf) ∧ ((P.main.file : Str) == f) = true
  cell : ∃ (oc : Value) (od : Option Addr) (osl : Array (Option Value)), K.lookup cc = some ⟨oc, od, .cell (some (.ref C)), osl⟩
  sup : PySem.W.ks_superIn K C C "__init__" = some (some (.builtin "ValueError.__init__"))
  self : PySem.W.mroIn K C (.ref C) = some true
  ve : PySem.W.subIn K (.ref C) (.type "ValueError") = some true
  noS : PySem.W.nsIn K mainGlobals "super" = some none
  third : PySem.W.nsIn K cStatics "thirdparty.any" = some none
  ini : PySem.W.findIn K (.ref C) "__init__" = some (some (.ref fI))
  tyI : PySem.W.typeIn K (.ref fI) = some (.type "function")
/-- the scope of such an __init__: its parameters N, and __class__ -/
structure ExScope (N : List Str) (sc : Scope) : Prop where
  kind : sc.kind = .function
  co : sc.isCoroutine = false
  gen : sc.isGenerator = false
  nd : N.Nodup
  par : ∀ x ∈ N, sc.names.lookup x = some .local
  nocell : ∀ x ∈ sc.names, x.2 ≠ .cell
  only : ∀ x, sc.names.lookup x = some .free → x = "__class__"
  cls : sc.names.lookup ("__class__" : Str) = some .free
  sup : sc.names.lookup ("super" : Str) = some .globalImplicit
/-- the context of the body behind the first statement -/
def exCx (CX : CXT) (P : Program) (w : World) (K : PySem.W.Frag) (mg : Str → Option Value) (base : Heap) (N : List Str) (qual : Str) (scope : Scope) (f : Addr) (cd : Value) (cc : Addr) (A : Around) (outer : List PySem.Env) (s : Shared) (H : Hp) (E : XK) : Cx where
  prog := P
  w := w
  K := K
  mg := mg
  base := base
  A := A.deeper (PySem.W.ksEnv qual scope s.heap.objs.size f cd cc)
  N := N
  s_0 := s
  H_0 := H
  env := PySem.W.ksEnv qual scope s.heap.objs.size f cd cc
  outer := outer
  stack := PySem.W.ksEnv qual scope s.heap.objs.size f cd cc :: outer
  ex := []
  calm := true
  fn := fun _ => false
  pn := []
  xe := fun e s' => wpAny (model P w) (A.deeper (PySem.W.ksEnv qual scope s.heap.objs.size f cd cc)) (leaving (PySem.W.ksEnv qual scope s.heap.objs.size f cd cc) e) (fun _ s'' => CX outer H s E e s'') (fun e' s'' => CX outer H s E e' s'') s'
theorem zip_lookup : ∀ {N : List Str} {us : List Value} {i : Nat} {x : Str} {u : Value}, N.Nodup → N[i]? = some x → us[i]? = some u → (N.zip us).reverse.lookup x = some u := by
  intro N us i x u nd h1 h2
  have hm : (x, u) ∈ (N.zip us).reverse := by
    rw [List.mem_reverse]
    refine List.mem_of_getElem? (i := i) ?_
    rw [List.getElem?_zip_eq_some]
    exact ⟨h1, h2⟩
  have nd2 : ((N.zip us).reverse.map (·.1)).Nodup := by
    rw [List.map_reverse]
    refine (List.reverse_perm _).nodup_iff.mpr ?_
    have : ∀ (N : List Str) (us : List Value), N.Nodup → ((N.zip us).map (·.1)).Nodup := by
      intro N
      induction N with
      | nil => intro us _; simp
      | cons n N ih =>
        intro us nd
        cases us with
        | nil => simp
        | cons v us =>
          simp only [List.zip_cons_cons, List.map_cons, List.nodup_cons]
          rw [List.nodup_cons] at nd
          refine ⟨fun h => nd.1 ?_, ih us nd.2⟩
          rw [List.mem_map] at h
          obtain ⟨⟨a, b⟩, h1, h2⟩ := h
          subst h2
          exact (List.of_mem_zip h1).1
    exact this N us nd
  generalize (N.zip us).reverse = l at hm nd2
  induction l with
  | nil => simp at hm
  | cons p l ih =>
    obtain ⟨a, b⟩ := p
    simp only [List.map_cons, List.nodup_cons] at nd2
    rcases List.mem_cons.mp hm with e | hm
    · cases e; simp [List.lookup]
    · have : x ≠ a := fun e => nd2.1 (by rw [← e]; exact List.mem_map_of_mem (f := (·.1)) hm)
      have e2 : (x == a) = false := by simpa using this
      simp only [List.lookup, e2]
      exact ih hm nd2.2
section
variable {CX : CXT} {P : Program} {w : World} {K : PySem.W.Frag} {mg : Str → Option Value} {base : Heap} {N : List Str} {qual : Str} {scope : Scope} {f C cc cda : Addr} {cd : Value} {A : Around} {outer : List PySem.Env} {s : Shared} {H : Hp} {E : XK} {us : List Value} {vs : List V}
theorem ex_start (S : ExScope N scope) (hd : A.handled = none) (e0 : Env0 P w K mg base A outer s H) (hl : vs.length = N.length) (r : Vals vs us) (hcell : ∃ v, s.heap.IsCell cc v) (hccb : ∃ o, base.get? cc = some o) {h1 : Heap} {tk : Nat}
    (hns : h1.Ns s.heap.objs.size (fun x => (N.zip us).reverse.lookup x)) (hk : ∀ b o, s.heap.get? b = some o → h1.get? b = some o) :
    Inv (exCx CX P w K mg base N qual scope f cd cc A outer s H E) [] (vs.map some) H { s with heap := h1, toks := tk } := by
  have noA : ∀ b : Addr, b ∉ (exCx CX P w K mg base N qual scope f cd cc A outer s H E).ex := fun b z => absurd (show b ∈ ([] : List Addr) from z) (by simp)
  have cl1 : ∀ {y : Str} {c : Addr}, ([(("__class__" : Str), cc)] : List (Str × Addr)).lookup y = some c → y = "__class__" ∧ c = cc := fun {y c} h => by
    by_cases e : y = "__class__"
    · subst e
      simp [List.lookup] at h
      exact ⟨rfl, h.symm⟩
    · have e2 : (y == ("__class__" : Str)) = false := by simpa using e
      simp [List.lookup, e2] at h
  obtain ⟨ob, hob⟩ := hccb
  refine ⟨⟨e0.mod, S.kind, rfl, rfl, Nat.le_refl _, fun y z c h1 h2 => (cl1 h1).1.trans (cl1 h2).1.symm, fun y hy => ?_, fun y c h _ => Bool.noConfusion h, fun _ => hd, Around.frames_deeper e0.frames, .inr ⟨rfl, rfl⟩, fun b z => absurd z (noA b), e0.bs, e0.bsz, fun b _ _ => noA b, fun b z => absurd z (noA b), e0.funs, e0.frf⟩,
    rfl, e0.bare, Un.kept hk, ⟨_, hns, fun i y v h1 h2 h3 => ?_⟩, fun y c h => ?_, e0.hok.fresh (Nat.le_refl _), fun y c h => ?_, fun p hp => absurd (show p ∈ ([] : List (Addr × Obj)) from hp) (by simp), e0.hok.kept hk, by simp only [List.length_map]; exact hl⟩
  · rcases hy with hy | hy
    · have hy : scope.names.lookup y = some .cell := hy
      exact absurd rfl (S.nocell _ (PySem.mem_of_lookup hy))
    · have hy : scope.names.lookup y = some .free := hy
      have e := S.only y hy
      subst e
      exact ⟨cc, by simp [exCx, List.lookup]⟩
  · have h2' : (vs.map some)[i]? = some (some v) := h2
    rw [List.getElem?_map] at h2'
    cases e : vs[i]? with
    | none => rw [e] at h2'; cases h2'
    | some a =>
      rw [e] at h2'
      cases h2'
      obtain ⟨u, hu, rv⟩ := r.get e
      refine ⟨u, rv, .inl ⟨S.par y (List.mem_of_getElem? h1), zip_lookup S.nd h1 hu⟩⟩
  · obtain ⟨_, e⟩ := cl1 h
    subst e
    obtain ⟨v, o, ho, q⟩ := hcell
    exact ⟨v, o, hk _ _ ho, q⟩
  · obtain ⟨_, e⟩ := cl1 h
    subst e
    exact (e0.bs c ob hob).2
end
/-- THE RULE for such an __init__: the written argument of super().__init__ and the rest of the body -/
theorem ex_fn {CX : CXT} {P : Program} {w : World} {K : PySem.W.Frag} {mg : Str → Option Value} {base : Heap} {k : Nat} {C fI cc cda : Addr} {qual : Str} {sI : Stmt} {N : List Str} {sp : Sp} {p0 p1 p2 p3 p4 : Pos} {a0 : Expr} {rest : List Stmt} {ar : Arg}
    (T : ExC K P C fI cc cda qual sI) (S : ExScope N (defScope sI)) (hbody : defBody sI = .Expr (.Call (.Attribute (.Call (.Name "super" p0) [] [] p1) "__init__" p2) [a0] [] p3) p4 :: rest)
    (hpar : ((defArgs sI).posonlyargs ++ (defArgs sI).args).head? = some ar) (h0 : N[0]? = some ar.arg) (htop : (P.main.scope.names.lookup ("super" : Str)).isSome = false)
    (hmg : mg "super" = none)
    (hsw : ∀ env : PySem.Env, swapsWith (.Call (.Attribute (.Call (.Name "super" p0) [] [] p1) "__init__" p2) [a0] [] p3) none p4.line env = pure false)
    (hev : ∀ env : PySem.Env, ∃ pl : Sem Bool, eval (.Call (.Attribute (.Call (.Name "super" p0) [] [] p1) "__init__" p2) [a0] [] p3) env = (do
      let ov ← attributeBase (.Call (.Name "super" p0) [] [] p1) "__init__" env (eval (.Call (.Name "super" p0) [] [] p1) env)
      standAt p2.atName
      let (f, first) ← holding [ov] (getMethod ov "__init__" pl)
      callWith p3 f first (backTo p3 (starEach [a0] env)) []))
    (hst : ∀ env : PySem.Env, starEach [a0] env = [(false, eval a0 env)])
    (len : ∀ vs H Q E, sp vs H Q E → vs.length = N.length)
    (hb : ∀ (A : Around) (outer : List PySem.Env) (s : Shared) (H : Hp) (vs : List V) (Q : VK) (E : XK), Room k (A.deeper (PySem.W.ksEnv qual (defScope sI) s.heap.objs.size fI (.ref cda) cc)) → sp vs H Q E →
      ∃ x ws t0 t, vs = .ref x :: ws ∧ H x = some (exo x C none) ∧ PE (exCx CX P w K mg base N qual (defScope sI) fI (.ref cda) cc A outer s H E) a0 t0 ∧ PSs (exCx CX P w K mg base N qual (defScope sI) fI (.ref cda) cc A outer s H E) rest t ∧
        t0 (vs.map some) H (fun _ H1 => H1 = H) ∧ t { nx := fun _ H' => Q .non H', rt := Q } (vs.map some) H) :
    ∀ fd oc od osl, K.lookup fI = some ⟨oc, od, .func fd, osl⟩ → FnOk P w K mg base CX (k + 1) fI fd N sp := by
  obtain ⟨oc, od, kV, doc, pm, an, ct, osl, lk⟩ := T.fn
  intro fd oc' od' osl' lk'
  rw [lk] at lk'
  obtain ⟨rfl, rfl, rfl, rfl⟩ : oc = oc' ∧ od = od' ∧ PySem.W.ksFn "__init__" qual (defArgs sI) (defBody sI) (defScope sI) .none kV doc pm an (.ref cda) ct cc = fd ∧ osl = osl' := by
    have e := Option.some.inj lk'
    injection e with e1 e2 e3 e4
    injection e3 with e3
    exact ⟨e1, e2, e3, e4⟩
  refine ⟨len, fun A outer s H args us vs Q E hr e0 hbd r hsp => ?_⟩
  have hl := len _ _ _ _ hsp
  have KX : K.In s.heap := e0.mod.kin.keeps fun b o e => (e0.bs b o e).1
  have lim : s.heap.NoLimit := e0.mod.nolimit.keeps fun b o e => (e0.bs b o e).1
  obtain ⟨x, ws, t0, t, evs, eH, hp0, hps, q0, qt⟩ := hb A outer s H vs Q E (hr.deeper _) hsp
  obtain ⟨oc3, od3, osl3, hcell⟩ := T.cell
  have lv : us.length = N.length := by rw [← r.length, hl]
  refine ks_codeAny_call_defAt (fd := PySem.W.ksFn "__init__" qual (defArgs sI) (defBody sI) (defScope sI) .none kV doc pm an (.ref cda) ct cc) (body := defBody sI) (binds := N.zip us) hr.depth (KX _ _ lk) rfl lim (PySem.W.codeRec_of KX T.code) rfl hbd S.nocell (fun y hy => S.par y.1 (List.of_mem_zip (a := y.1) (b := y.2) hy).1) (fun h1 hns hk => ?_) S.co S.gen S.kind
  have I : Inv (exCx CX P w K mg base N qual (defScope sI) fI (.ref cda) cc A outer s H E) [] (vs.map some) H { s with heap := h1, toks := s.toks + (N.zip us).length } :=
    ex_start S hr.hd e0 hl r ⟨_, _, KX _ _ hcell, rfl⟩ ⟨_, e0.mod.kin _ _ hcell⟩ hns hk
  -- the parts
  obtain ⟨nm, qn, Nn, bs, bm, sn, sb, ab, co, dd, k0, k1, k2, k3, k5, hC, hbm⟩ := T.base.cls
  have hcl : PySem.W.clsIn K C = some { name := nm, bases := bs, mro := .ref C :: bm, ns := Nn, qualname := qn, hasDict := true, slotNames := sn, subclasses := sb, abstract := ab, collection := co, hasDel := false } := by
    unfold PySem.W.clsIn
    rw [hC] <;> rfl
  obtain ⟨oc4, od4, fvs, osl4, ff, tf, hcode, hf2, hfile⟩ := T.file
  have K1 : K.In h1 := I.kIn
  obtain ⟨t1, ho⟩ := exo_at I.hok eH
  have hx0 : us[0]? = some (.ref x) := by
    subst evs
    cases r with
    | cons rv rt => cases rv; rfl
  have hself : (N.zip us).reverse.lookup ar.arg = some (.ref x) := zip_lookup S.nd h0 hx0
  have hxs : x < s.heap.objs.size := e0.hok.lt eH
  let env := PySem.W.ksEnv qual (defScope sI) s.heap.objs.size fI (.ref cda) cc
  show PySem.wpAt _ (A.deeper env) (.func (defBody sI) env) (execs (defBody sI) env) _ _ _
  obtain ⟨mb, hb1, hb2⟩ := e0.mod.blt
  have IA : InstAt h1 x (PySem.HandSPX.excO C t1) C none := ⟨ho, rfl, rfl, trivial⟩
  have hxC : x ≠ C := PySem.W.ks_ne K1 IA hcl
  -- behind super().__init__(..): the rest
  have after : ∀ (s2 : Shared), Inv (exCx CX P w K mg base N qual (defScope sI) fI (.ref cda) cc A outer s H E) [] (vs.map some) H s2 →
      wpAny (model P w) (A.deeper env) (execs rest env) (fun fl s' => CR CX outer P w H s Q E (.ok (.ret (match fl with | .ret v => v | _ => .none))) s')
        (fun e s' => wpAny (model P w) (A.deeper env) (leaving env e) (fun _ s'' => CR CX outer P w H s Q E (.error e) s'') (fun e' s'' => CR CX outer P w H s Q E (.error e') s'') s') s2 := by
    intro s2 I2
    refine wpAny_mono (hps.run [] s2 (vs.map some) H _ I2 qt) (fun fl s' hs => ?_) fun e s' hs => hs
    have fin : ∀ {σ' : St} {H' : Hp} {v : V} {u : Value}, Inv (exCx CX P w K mg base N qual (defScope sI) fI (.ref cda) cc A outer s H E) [] σ' H' s' → RelV v u → Q v H' → CE outer P w H s Q u s' :=
      fun {σ' H' v u} J rv q => ⟨v, H', J.os, J.bare, J.base, J.hok, rv, q⟩
    cases fl with
    | ret u =>
      obtain ⟨v, σ', H', J, rv, q⟩ := hs
      exact fin J rv q
    | next =>
      obtain ⟨σ', H', J, q⟩ := hs
      exact fin (v := V.non) (u := Value.none) J rfl q
    | brk => exact hs.elim fun _ z => z.elim fun _ z => z.2.elim
    | cont => exact hs.elim fun _ z => z.elim fun _ z => z.2.elim
  have nx : interactive env = false := by simp [interactive, env, S.kind]
  have go : PySem.wpAt (model P w) (A.deeper env) (.func (defBody sI) env) (eval (.Call (.Attribute (.Call (.Name "super" p0) [] [] p1) "__init__" p2) [a0] [] p3) env)
      (fun _ s2 => Inv (exCx CX P w K mg base N qual (defScope sI) fI (.ref cda) cc A outer s H E) [] (vs.map some) H s2)
      (fun e s' => wpAny (model P w) (A.deeper env) (leaving env e) (fun _ s'' => CR CX outer P w H s Q E (.error e) s'') (fun e' s'' => CR CX outer P w H s Q E (.error e') s'') s') { s with heap := h1, toks := s.toks + (N.zip us).length } := by
    obtain ⟨pl, hev⟩ := hev env
    refine ks_wpAt_MethodCall (pl := pl) ?_ hev
    refine ks_wpAt_super_base (f := fI) (cc := cda) (env := env) (ar := ar) (file := ff) (tf := tf) (vs := fvs) S.sup S.cls (by decide) rfl (K1 _ _ lk) rfl hpar rfl (K1 _ _ hcode) rfl hf2 hfile htop ?_
    refine PySem.W.ks_loadName_global S.kind S.sup (PySem.Calls.loadGlobal_builtin (env := env) (mb := mb) (I.mod.glob.keeps I.bk) hmg (hb1.keeps I.bk) ((hb2 _ (by decide)).trans (by first | boot_by_name | decide +kernel)) ⟨rfl, ?_⟩)
    refine wpAny_loadName_free (c := cc) S.kind S.cls (by simp [env, List.lookup]) ⟨_, K1 _ _ hcell, rfl⟩ ?_
    refine wpAny_loadName_local S.kind (S.par _ (List.mem_of_getElem? h0)) hns hself ?_
    refine ks_wpAny_isType_cls (K1 _ _ hC) rfl ⟨rfl, ?_⟩
    refine ks_wpAny_call_super (K1 _ _ hC) rfl ho rfl (fun c e => nomatch e) (PySem.W.looks_mroIn K1 T.self) (fun h2 e2 kk2 => ?_)
    have I2 : Inv (exCx CX P w K mg base N qual (defScope sI) fI (.ref cda) cc A outer s H E) [] (vs.map some) H { s with heap := h2, toks := s.toks + (N.zip us).length } := I.kept (h' := h2) (t' := s.toks + (N.zip us).length) kk2
    have K2 : K.In h2 := I2.kIn
    have ho2 := kk2 _ _ ho
    have hm2 : (PySem.W.clsIn K C).bind (fun cd => PySem.W.alongIn K "__init__" ((cd.mro.dropWhile (· != .ref C)).drop 1)) = some (some (.builtin "ValueError.__init__")) := T.sup
    rw [hcl] at hm2
    have IA2 : InstAt h2 x (PySem.HandSPX.excO C t1) C none := ⟨ho2, rfl, rfl, trivial⟩
    refine kxs_getMethod kxs_ValueError e2 (PySem.W.looks_opaque K2 T.third) (l₀ := .ref C :: bm) (fun A' Q' E' s' k' q' => wpAny_bind ((PySem.W.looks_clsIn K2 hcl) A' _ E' s' k' (wpAny_pure q'))) rfl K2 hm2 (IA2.type.andThen (PySem.W.looks_subIn K2 T.ve)) hxC (by decide) ?_
    -- the wrapper stands at u
    have I3 : Inv (exCx CX P w K mg base N qual (defScope sI) fI (.ref cda) cc A outer s H E) [] (vs.map some) H { s with heap := h2.push (kxs_mw "ValueError.__init__" x), toks := s.toks + (N.zip us).length + 1 } := I2.kept (t' := s.toks + (N.zip us).length + 1) fun b o e => Heap.get?_push_of_some _ e
    have hu3 : (h2.push (kxs_mw "ValueError.__init__" x)).get? h2.objs.size = some (kxs_mw "ValueError.__init__" x) := Heap.get?_push_size _ rfl
    have hun : H h2.objs.size = none := I2.hok.fresh (Nat.le_refl _)
    have I4 := I3.pins_of (pins' := [(h2.objs.size, kxs_mw "ValueError.__init__" x)]) (fun p hp => by
      have e : p = (h2.objs.size, kxs_mw "ValueError.__init__" x) := by simpa using hp
      subst e
      exact ⟨hu3, hun, Nat.ne_of_gt I2.lt, I2.nofs (Nat.le_refl _), fun v z => nomatch z⟩)
    refine kxs_callWith (i := "ValueError.__init__") (x := x) (by rw [hst]; rfl) ?_
    rw [hst]
    refine PySem.Calls.evalArgs_plain (PySem.Calls.spliced_cons (wpAny_mono (hp0.run _ _ (vs.map some) H _ I4 q0) (fun u s3 ⟨v0, H5, I5, r5, e5⟩ => PySem.Calls.spliced_nil ?_) fun _ _ z => z))
    subst e5
    have hw := (I5.pin (h2.objs.size, kxs_mw "ValueError.__init__" x) (by simp [exCx])).1
    refine ⟨hw, ?_⟩
    obtain ⟨t5, ho5⟩ := exo_at I5.hok eH
    obtain ⟨hp5, g5, d5, tk5, os5⟩ := s3
    refine mw_call (I5.kIn _ _ hC) ho5 hw (by rw [sizeLine_eq]; exact (by decide : 1 ≤ 16777216)) fun hq tq kq eq => ?_
    have J := I5.write (t' := tk5) (x := x) (e := x) (o := exo x C none) (by rw [eH]; exact True.intro) (.inl rfl) kq ⟨_, eq⟩ (exo_ok eq)
    have eu : upd H5 x (exo x C none) = H5 := by
      funext b
      by_cases hb : b = x
      · rw [hb, upd_same, eH]
      · rw [upd_ne hb]
    rw [eu] at J
    exact J.pins_of (pins' := []) (fun p hp => absurd hp (by simp))
  rw [hbody] at go ⊢
  refine ks_wpAt_execs_cons (ks_wpAt_Expr_any (ks_wpAt_mono go (fun _ s2 I2 => ?_) fun _ _ z => z) nx (hsw env))
  exact PySem.wpAt_of_wpAny (after s2 I2)
end VL
namespace VL
open PySem PySem.Spec PyProof.Rows L2
/-! ### calls of the text's own defs -/
/-- a def's promise by a plain function of its arguments -/
def spP (K : PySem.W.Frag) (cl : Nat → Addr) (Hs H : Hp) (Q : VK) (E : XK) : R PV → Prop
  | .ok v => ∀ x Hs' H', Ext Hs H Hs' H' → Rp K cl Hs' x v → Q x H'
  | .exc c fs => ∀ d fvs Hs' H', Ext Hs H Hs' H' → Hs' d = some (.xd fvs) → RpF K cl Hs' fvs fs → E (.ref (cl c)) (some d) H'
  | .stuck => False
def spF (K : PySem.W.Frag) (cl : Nat → Addr) (n : Nat) (g : List PV → R PV) : Sp := fun vs H Q E => ∃ Hs us, Sub Hs H ∧ RpA K cl Hs vs us ∧ vs.length = n ∧ spP K cl Hs H Q E (g us)
def gN (n : Nat) (g : List PV → R PV) : List PV → R PV := fun us => if us.length = n then g us else .stuck
section
variable {X : Cx} {cl : Nat → Addr} {W : WX} {pos p : Pos} {x : Str} {k n : Nat} {f : Addr} {fd : FuncData} {ps : List Str} {g : List PV → R PV}
theorem sp_use {vs : List V} {us : List PV} {σ : St} {Hs H : Hp} {Q : VK} {K : PySem.W.Frag} (s : Sub Hs H) (r : RpA K cl Hs vs us) (h : GP K cl (Rp K cl) W Hs H σ (gN n g us) Q) : spF K cl n g vs H Q (WE W σ) := by
  unfold gN at h
  split at h
  · rename_i hl
    refine ⟨Hs, us, s, r, by rw [r.length, hl], ?_⟩
    cases e : g us with
    | ok v => rw [e] at h; exact h
    | exc c fs => rw [e] at h; exact h
    | stuck => rw [e] at h; exact h
  · exact h.elim
theorem ve_call {e : Expr} {es : List Expr} {fs : List Ex} (F : FnOk X.prog X.w X.K X.mg X.base (L2.CX X.prog X.w) k f fd ps (spF X.K cl n g)) (hr : Room k X.A) (hm : X.mg x = some (.ref f)) (hk : PySem.W.keepIn X.K (.ref f) = true) (hb : Binds X.K fd ps []) (tk : Takes X W) (ha : PA X (e :: es) (ta X.K cl W (evs fs)))
    (hg : Gl X x := by rfl) (hdb : (x == ("__debug__" : Str)) = false := by decide) (he : starEach (e :: es) X.env = (false, eval e X.env) :: starEach es X.env := by rfl) (hpl : (backTo pos (starEach es X.env)).any (·.1) = false := by rfl) :
    PE X (.Call (.Name x p) (e :: es) [] pos) (tv X.K cl W (eArgs (gN n g) fs)) :=
  peWeak (pe_callSD (dvs := []) (E := fun σ => WE W σ) F hr hg hm hk hb .nil (fun σ => passAt tk σ) ha hdb he hpl) fun σ H Q ⟨Hs, ρ, E, h⟩ => by
    refine gv_bind E h fun us vs Hs1 H1 _ s1 rx h1 => ?_
    show spF X.K cl n g (vs ++ []) H1 Q (WE W σ)
    rw [List.append_nil]
    exact sp_use s1.sub rx h1
theorem ve_call0 (F : FnOk X.prog X.w X.K X.mg X.base (L2.CX X.prog X.w) k f fd ps (spF X.K cl n g)) (hr : Room k X.A) (hm : X.mg x = some (.ref f)) (hk : PySem.W.keepIn X.K (.ref f) = true) (hb : Binds X.K fd ps []) (tk : Takes X W)
    (hg : Gl X x := by rfl) (hdb : (x == ("__debug__" : Str)) = false := by decide) : PE X (.Call (.Name x p) [] [] pos) (tv X.K cl W (eArgs (gN n g) [])) := by
  refine ⟨fun pins s σ H Q I ⟨Hs, ρ, E, h⟩ => ?_⟩
  refine wpAny_Call_Name_kw (ld_glob I hg hm ?_ hdb)
  exact PySem.W.callWith_K0 I.kIn hk (run_fnSD (us := []) (vs := []) (dvs := []) (E := fun σ => WE W σ) F hr hb .nil (passAt tk σ) I .nil (sp_use E.sub .nil h))
end
/-- a def's slots at its entry -/
def startE (n : Nat) (us : List PV) : Env := us.map Sl.fz ++ List.replicate (n - us.length) Sl.no
def outR : Out → R PV
  | .next _ => .ok .non
  | .ret v => .ok v
  | .exc c fs _ => .exc c fs
  | _ => .stuck
theorem start_ok {K : PySem.W.Frag} {cl : Nat → Addr} {Hs H : Hp} {N : List Str} {vs : List V} {us : List PV} (s : Sub Hs H) (r : RpA K cl Hs vs us) : SEnv K cl Hs H Hs H (L2.start N vs) (startE N.length us) := by
  have get : ∀ {i : Nat} {sl : Sl}, (startE N.length us)[i]? = some sl → (∃ u, us[i]? = some u ∧ sl = .fz u) ∨ sl = .no := fun {i sl} h => by
    unfold startE at h
    by_cases hi : i < us.length
    · rw [List.getElem?_append_left (by simpa using hi), List.getElem?_map] at h
      cases e : us[i]? with
      | none => rw [e] at h; cases h
      | some u => rw [e] at h; cases h; exact .inl ⟨u, rfl, rfl⟩
    · rw [List.getElem?_append_right (by simpa using hi), List.getElem?_replicate] at h
      split at h
      · cases h; exact .inr rfl
      · cases h
  refine ⟨Ext.refl s, ?_, fun i v h => ?_, fun i xs h => ?_, fun i j xs ys a h => ?_⟩
  · unfold L2.start startE
    simp [r.length]
  · rcases get h with ⟨u, e, e2⟩ | e
    · cases e2
      obtain ⟨x, e3, rx⟩ := r.get e
      refine ⟨x, ?_, rx⟩
      unfold L2.start
      have hi : i < vs.length := (List.getElem?_eq_some_iff.mp e3).1
      rw [List.getElem?_append_left (by simpa using hi), List.getElem?_map, e3]
      rfl
    · cases e
  · rcases get h with ⟨u, e, e2⟩ | e
    · cases e2
    · cases e
  · rcases get h with ⟨u, e, e2⟩ | e
    · cases e2
    · cases e
section
variable {P : Program} {w : World} {K : PySem.W.Frag} {mg : Str → Option Value} {base : Heap} {cl : Nat → Addr}
/-- THE RULE for a def: its body as a plain function of the slots -/
theorem def_ok {x qual : Str} {st : Stmt} {f : Addr} {fd : FuncData} {N ps : List Str} {k : Nat} {b : Env → Out} (F : Fun K x qual st f fd) (S : FnScope N ps (defScope st))
    (hbody : ∀ (cdv : Value) (A : Around) (outer : List PySem.Env) (s : Shared) (H : Hp) (E : XK) (He : Hp), Room k (A.deeper (envOfC qual (defScope st) s.heap.objs.size f cdv)) →
      PVs (cxOf (L2.CX P w) P w K mg base N qual (defScope st) f cdv A outer s H E) cl (fun c d _ H => E c d H) He H (defBody st) b) : FnOk P w K mg base (L2.CX P w) (k + 1) f fd ps (spF K cl ps.length fun us => outR (b (startE N.length us))) := by
  refine F.okX S (fun vs H Q E ⟨_, _, _, _, e, _⟩ => e) fun cdv A outer s H vs Q E hr ⟨Hs, us, s1, r, hl, h⟩ => ?_
  refine ⟨_, hbody cdv A outer s H E Hs hr, Hs, _, start_ok s1 r, ?_⟩
  replace h : spP K cl Hs H Q E (outR (b (startE N.length us))) := h
  cases e : b (startE N.length us) with
  | next ρ => rw [e] at h; exact fun σ Hs' H' _ S' => h .non Hs' H' S'.ext .non
  | ret v => rw [e] at h; exact h
  | exc c fs ρ => rw [e] at h; exact fun σ Hs' H' d fvs _ S' e1 r1 => h d fvs Hs' H' S'.ext e1 r1
  | brk ρ => rw [e] at h; exact h.elim
  | cont ρ => rw [e] at h; exact h.elim
  | stuck => rw [e] at h; exact h.elim
/-- a def of which nothing is promised -/
theorem def_none {fd : FuncData} {f : Addr} {ps : List Str} {k n : Nat} : FnOk P w K mg base (L2.CX P w) k f fd ps (spF K cl n fun _ => .stuck) :=
  ⟨fun vs H Q E ⟨_, _, _, _, _, h⟩ => h.elim, fun A outer s H args us vs Q E _ _ _ _ ⟨_, _, _, _, _, h⟩ => h.elim⟩
end

/-! ### raise -/
theorem SEnv.up {K : PySem.W.Frag} {cl : Nat → Addr} {He H0 Hs H Hs1 H1 : Hp} {σ : St} {ρ : Env} (S : SEnv K cl He H0 Hs H σ ρ) (x : Ext Hs H Hs1 H1) : SEnv K cl He H0 Hs1 H1 σ ρ :=
  ⟨S.ext.trans x, S.len, fun j v' e => let ⟨q, a1, a2⟩ := S.fz j v' e; ⟨q, a1, a2.mono x.fs⟩, fun j ys e => let ⟨q, a0, a1, a2, a3, a4, a5⟩ := S.own j ys e; ⟨q, a0, a1, x.same _ _ a2, a3.mono x.fs, x.nw q (by rw [a2]; simp) a4, a5⟩, S.inj⟩
/-- the fields that an __init__ stores behind super().__init__: a written text, or its i-th argument -/
inductive Fv where
  | c (z : Str) | a (i : Nat)
abbrev Fsp := List (Str × Fv)
def fvTE : Fv → TE
  | .c z => tC (.str z)
  | .a i => tVar (i + 1)
def tInit (K : PySem.W.Frag) : Fsp → TS
  | [] => tNext
  | (f, v) :: r => tSeq (tOst K f (tVar 0) (fvTE v)) (tInit K r)
def fvV (vs : List V) : Fv → Option V
  | .c z => some (.str z)
  | .a i => vs[i]?
def fsV (vs : List V) : Fsp → List (Str × V) → Option (List (Str × V))
  | [], acc => some acc
  | (f, v) :: r, acc => (fvV vs v).bind fun y => fsV vs r ((f, y) :: acc)
def fvP (vs : List PV) : Fv → Option PV
  | .c z => some (.str z)
  | .a i => vs[i]?
def fsP (vs : List PV) : Fsp → List (Str × PV) → Option (List (Str × PV))
  | [], acc => some acc
  | (f, v) :: r, acc => (fvP vs v).bind fun y => fsP vs r ((f, y) :: acc)
theorem fs_rel {K : PySem.W.Frag} {cl : Nat → Addr} {Hs : Hp} {vs : List V} {us : List PV} (r : RpA K cl Hs vs us) : ∀ {sp : Fsp} {acc : List (Str × V)} {acc' fs' : List (Str × PV)}, RpF K cl Hs acc acc' → fsP us sp acc' = some fs' → ∃ fs, fsV vs sp acc = some fs ∧ RpF K cl Hs fs fs'
  | [], acc, acc', fs', ra, e => by cases e; exact ⟨acc, rfl, ra⟩
  | (f, v) :: t, acc, acc', fs', ra, e => by
    simp only [fsP, Option.bind_eq_some_iff] at e
    obtain ⟨y, e1, e2⟩ := e
    have hv : ∃ x, fvV vs v = some x ∧ Rp K cl Hs x y := by
      cases v with
      | c z => cases e1; exact ⟨_, rfl, .str z⟩
      | a i => exact r.get e1
    obtain ⟨x, h1, h2⟩ := hv
    obtain ⟨fs, h3, h4⟩ := fs_rel r (acc := (f, x) :: acc) (.cons h2 ra) e2
    exact ⟨fs, by simp only [fsV, h1, Option.bind_some]; exact h3, h4⟩
theorem fvTE_use {v : Fv} {y x : V} {vs : List V} {H : Hp} {Q : VK} (e : fvV vs v = some y) (q : Q y H) : fvTE v ((x :: vs).map some) H Q := by
  cases v with
  | c z => cases e; exact q
  | a i =>
    have e : vs[i]? = some y := e
    refine ⟨y, ?_, q⟩
    rw [List.map_cons, List.getElem?_cons_succ, List.getElem?_map, e]
    rfl
theorem init_more {K : PySem.W.Frag} {C x dx : Addr} (T : OexC K C) {vs : List V} {D : Ends} (hne : x ≠ dx) : ∀ {sp : Fsp} {acc fs : List (Str × V)} {H : Hp}, (∀ p ∈ sp, PySem.W.findIn K (.ref C) p.1 = some none) → fsV vs sp acc = some fs → acc.length + sp.length ≤ 900 → H x = some (exo x C (some dx)) → H dx = some (exd dx acc) →
    (∀ H', H' x = some (exo x C (some dx)) → H' dx = some (exd dx fs) → (∀ b, b ≠ x → b ≠ dx → H' b = H b) → D.nx ((V.ref x :: vs).map some) H') → tInit K sp D ((V.ref x :: vs).map some) H
  | [], acc, fs, H, _, e, _, h1, h2, q => by cases e; exact q H h1 h2 fun _ _ _ => rfl
  | (f, v) :: r, acc, fs, H, hn, e, hl, h1, h2, q => by
    simp only [fsV, Option.bind_eq_some_iff] at e
    obtain ⟨y, e1, e2⟩ := e
    refine fvTE_use e1 ⟨.ref x, rfl, x, C, rfl, T, hn (f, v) List.mem_cons_self, .inr ⟨dx, acc, h1, h2, by simp at hl; omega, ?_⟩⟩
    refine init_more (D := D) T hne (fun p hp => hn p (List.mem_cons_of_mem _ hp)) e2 (by simp at hl ⊢; omega) (by rw [upd_ne hne]; exact h1) upd_same fun H' a b c => q H' a b fun z z1 z2 => by rw [c z z1 z2, upd_ne z2]
theorem init_all {K : PySem.W.Frag} {C x : Addr} (T : OexC K C) {vs : List V} {D : Ends} {f : Str} {v : Fv} {r : Fsp} {fs : List (Str × V)} {H : Hp} (hn : ∀ p ∈ (f, v) :: r, PySem.W.findIn K (.ref C) p.1 = some none) (e : fsV vs ((f, v) :: r) [] = some fs) (hl : r.length ≤ 800) (h1 : H x = some (exo x C none))
    (q : ∀ dx H', H dx = none → dx ≠ x → H' x = some (exo x C (some dx)) → H' dx = some (exd dx fs) → (∀ b, b ≠ x → b ≠ dx → H' b = H b) → D.nx ((V.ref x :: vs).map some) H') : tInit K ((f, v) :: r) D ((V.ref x :: vs).map some) H := by
  simp only [fsV, Option.bind_eq_some_iff] at e
  obtain ⟨y, e1, e2⟩ := e
  refine fvTE_use e1 ⟨.ref x, rfl, x, C, rfl, T, hn (f, v) List.mem_cons_self, .inl ⟨h1, fun dx n ne => ?_⟩⟩
  refine init_more (D := D) (acc := [(f, y)]) T (Ne.symm ne) (fun p hp => hn p (List.mem_cons_of_mem _ hp)) e2 (by simp; omega) upd_same (by rw [upd_ne ne]; exact upd_same) fun H' a b c => q dx H' n ne a b fun z z1 z2 => by rw [c z z1 z2, upd_ne z1, upd_ne z2]
/-- what such an __init__ promises: the fields of its arguments -/
def spI (C : Addr) (n : Nat) (sp : Fsp) : Sp := fun vs H Q E => ∃ x ws fs, vs = .ref x :: ws ∧ ws.length = n ∧ H x = some (exo x C none) ∧ fsV ws sp [] = some fs ∧
  ∀ dx H', H dx = none → dx ≠ x → H' x = some (exo x C (some dx)) → H' dx = some (exd dx fs) → (∀ b, b ≠ x → b ≠ dx → H' b = H b) → Q .non H'
/-- .. by its text -/
theorem init_ok {P : Program} {w : World} {K : PySem.W.Frag} {mg : Str → Option Value} {base : Heap} {k : Nat} {C fI cc cda : Addr} {qual : Str} {sI : Stmt} {N : List Str} {p0 p1 p2 p3 p4 : Pos} {a0 : Expr} {rest : List Stmt} {ar : Arg} {f : Str} {v : Fv} {r : Fsp} {n : Nat}
    (T : ExC K P C fI cc cda qual sI) (S : ExScope N (defScope sI)) (hbody : defBody sI = .Expr (.Call (.Attribute (.Call (.Name "super" p0) [] [] p1) "__init__" p2) [a0] [] p3) p4 :: rest)
    (hpar : ((defArgs sI).posonlyargs ++ (defArgs sI).args).head? = some ar) (h0 : N[0]? = some ar.arg) (htop : (P.main.scope.names.lookup ("super" : Str)).isSome = false) (hmg : mg "super" = none) (hN : N.length = n + 1)
    (hsw : ∀ env : PySem.Env, swapsWith (.Call (.Attribute (.Call (.Name "super" p0) [] [] p1) "__init__" p2) [a0] [] p3) none p4.line env = pure false)
    (hev : ∀ env : PySem.Env, ∃ pl : Sem Bool, eval (.Call (.Attribute (.Call (.Name "super" p0) [] [] p1) "__init__" p2) [a0] [] p3) env = (do
      let ov ← attributeBase (.Call (.Name "super" p0) [] [] p1) "__init__" env (eval (.Call (.Name "super" p0) [] [] p1) env)
      standAt p2.atName
      let (f, first) ← holding [ov] (getMethod ov "__init__" pl)
      callWith p3 f first (backTo p3 (starEach [a0] env)) []))
    (hst : ∀ env : PySem.Env, starEach [a0] env = [(false, eval a0 env)]) (hn : ∀ p ∈ (f, v) :: r, PySem.W.findIn K (.ref C) p.1 = some none) (hl : r.length ≤ 800)
    (ha : ∀ X : Cx, X.N = N → X.env.scope = defScope sI → ∃ t0, PE X a0 t0 ∧ ∀ (x : V) (ws : List V) (H : Hp), ws.length = n → t0 ((x :: ws).map some) H (fun _ H1 => H1 = H))
    (hr : ∀ X : Cx, X.N = N → X.env.scope = defScope sI → PSs X rest (tInit X.K ((f, v) :: r))) {fd : FuncData} {oc : Value} {od : Option Addr} {osl : Array (Option Value)} (lk : K.lookup fI = some ⟨oc, od, .func fd, osl⟩) : FnOk P w K mg base (L2.CX P w) (k + 1) fI fd N (spI C n ((f, v) :: r)) := by
  refine ex_fn (k := k) T S hbody hpar h0 htop hmg hsw hev hst (fun vs H Q E ⟨x, ws, fs, e, hl, _⟩ => by rw [e, hN, List.length_cons, hl]) (fun A outer s H vs Q E hrm ⟨x, ws, fs, e, hw, eH, ef, q⟩ => ?_) fd oc od osl lk
  subst e
  obtain ⟨t0, g1, g2⟩ := ha (exCx (L2.CX P w) P w K mg base N qual (defScope sI) fI (.ref cda) cc A outer s H E) rfl rfl
  exact ⟨x, ws, t0, _, rfl, eH, g1, hr (exCx (L2.CX P w) P w K mg base N qual (defScope sI) fI (.ref cda) cc A outer s H E) rfl rfl, g2 _ _ _ hw, init_all T.base hn ef hl eH q⟩
section
variable {X : Cx} {cl : Nat → Addr} {W : WX} {He H0 : Hp} {pos p p2 : Pos} {x : Str} {k n : Nat} {C fI : Addr} {fd : FuncData} {ps : List Str} {sp : Fsp}
def mkFs (n : Nat) (sp : Fsp) (us : List PV) : Option (List (Str × PV)) := if us.length = n ∧ n ≤ 1000 then fsP us sp [] else none
def sRaise (c : Nat) (mk : List PV → Option (List (Str × PV))) (bs : List Bool) (fs : List Ex) : Env → Out := fun ρ => onE PV.nols (evs fs) bs ρ fun us ρ' => match mk us with
  | some f => .exc c f ρ'
  | none => .stuck
/-- the heap behind a made error -/
theorem made_eq {H1 H2 : Hp} {a d : Addr} {fs : List (Str × V)} {o : HO} (n : H1 a = none) (h : ∀ b, b ≠ a → b ≠ d → H2 b = upd H1 a o b) (hd : d ≠ a) : upd (del H2 a) d (.xd fs) = upd H1 d (.xd fs) := by
  funext b
  by_cases e : b = d
  · rw [e, upd_same, upd_same]
  · rw [upd_ne e, upd_ne e]
    by_cases e2 : b = a
    · rw [e2, del_same, n]
    · rw [del_ne e2, h b e2 e, upd_ne e2]
theorem er_use {ta' : TA} {σ : St} {H : Hp} {D : Ends} {c : Nat} {bs : List Bool} {fs : List Ex} (hC : C = cl c) (h : ts X.K cl He H0 W (sRaise c (mkFs n sp) bs fs) D σ H) : tMkO C (spI C n sp) [] (ta X.K cl W (evs fs)) σ H (fun cls d H' => W cls d σ H') := by
  obtain ⟨Hs, ρ, S, h⟩ := h
  refine onE_use bears_a S h fun us vs Hs1 H1 ρ1 up S1 r ev _ _ hp => ?_
  unfold mkFs at hp
  split at hp
  · rename_i f hf
    split at hf
    · rename_i hk
      obtain ⟨hl, hk⟩ := hk
      have hlv : vs.length = n := by rw [r.length, hl]
      obtain ⟨fs', e1, e2⟩ := fs_rel r .nil hf
      refine ⟨by omega, fun a na => ⟨a, vs ++ [], fs', by rw [List.append_nil], by rw [List.append_nil]; exact hlv, upd_same, by rw [List.append_nil]; exact e1, fun dx H2 nd ne h1 h2 hoth => ⟨rfl, dx, fs', h1, h2, ?_, ?_⟩⟩⟩
      · rw [upd_ne ne] at nd; exact nd
      · rw [upd_ne ne] at nd
        rw [made_eq na hoth ne, hC]
        have x2 := Ext.new (o := HO.xd fs') S1.sub nd
        exact hp σ _ _ dx fs' x2.fs (S1.up x2) upd_same (e2.mono x2.fs)
    · cases hf
  · exact hp.elim
theorem vs_raise {e : Expr} {es : List Expr} {fs : List Ex} {bs : List Bool} {c : Nat} (hcalm : X.calm = true) (tk : Takes X W) (T : OexC X.K C) (iC : PySem.W.findIn X.K (.ref C) "__init__" = some (some (.ref fI))) (tI : PySem.W.typeIn X.K (.ref fI) = some (.type "function"))
    (F : FnOk X.prog X.w X.K X.mg X.base (L2.CX X.prog X.w) k fI fd ps (spI C n sp)) (hr : Room (k + 1) X.A) (hb : Binds X.K fd ps []) (hm : X.mg x = some (.ref C)) (hC : C = cl c) (ha : PA X (e :: es) (ta X.K cl W (evs fs)))
    (hg : Gl X x := by rfl) (hdb : (x == ("__debug__" : Str)) = false := by decide) (he : starEach (e :: es) X.env = (false, eval e X.env) :: starEach es X.env := by rfl) (hpl : (backTo p2 (starEach es X.env)).any (·.1) = false := by rfl) :
    PV1 X cl W He H0 (.Raise (some (.Call (.Name x p) (e :: es) [] p2)) none pos) (sRaise c (mkFs n sp) bs fs) :=
  psWeak (ps_raise hcalm tk (pmk_oex T iC tI F hr hb .nil (fun _ _ _ _ _ _ _ h => by
    obtain ⟨_, _, _, _, _, _, _, _, _, _, _, _, z⟩ := h
    exact z.elim) hg hm ha hdb he hpl)) fun D σ H h => er_use (ta' := ta X.K cl W (evs fs)) hC h
end
end VL
namespace VL
open PySem PySem.Spec PyProof.Rows L2
/-! ### try: clauses with a name and without -/
abbrev SuT := Addr → Value → Option Addr → TS
/-- a clause: the class, the slot of its name, its suite's reading -/
abbrev ClT := Value × Option Nat × SuT
def endsGone (D : Ends) (i : Nat) : Ends := { nx := fun σ' H' => D.nx (σ'.set i none) H', rt := D.rt, bk := fun σ' H' => D.bk (σ'.set i none) H', ct := fun σ' H' => D.ct (σ'.set i none) H' }
def wMix (K : PySem.W.Frag) (Wout : WX) (D : Ends) : List ClT → WX
  | [] => Wout
  | (c, none, ts) :: r => fun cls d σ H => ∃ b, PySem.W.exmOne K cls c = some b ∧ (b = true → ∀ a, H a = none → ts a cls d D σ H) ∧ (b = false → wMix K Wout D r cls d σ H)
  | (c, some i, ts) :: r => fun cls d σ H => ∃ b, PySem.W.exmOne K cls c = some b ∧ (b = true → ∀ a, H a = none → ts a cls d (endsGone D i) (σ.set i (some (.ref a))) H) ∧ (b = false → wMix K Wout D r cls d σ H)
inductive MixOk (X : Cx) : List ExceptHandler → List ClT → Prop
  | nil : MixOk X [] []
  | un {x : Str} {c : Value} {ts : SuT} {b₀ : Stmt} {suite : List Stmt} {np pos' : Pos} {hds : List ExceptHandler} {l : List ClT} (hc : Names X x c)
      (hsu : ∀ (a : Addr) (oe : Obj) (cls : Value) (d : Option Addr) (pn : List (Addr × Obj)), Zc cls d oe → (∃ vs, oe.data = .fields vs) → PSs (X.suite a ((a, oe) :: pn)) (b₀ :: suite) (ts a cls d)) (r : MixOk X hds l) :
      MixOk X (.ExceptHandler (some (.Name x np)) none (b₀ :: suite) pos' :: hds) ((c, none, ts) :: l)
  | nm {x n : Str} {i : Nat} {c : Value} {ts : SuT} {b₀ : Stmt} {suite : List Stmt} {np pos' : Pos} {hds : List ExceptHandler} {l : List ClT} (hN : X.N.Nodup) (hi : X.N[i]? = some n) (hln : X.env.kindOf n = some .local) (hc : Names X x c)
      (hsu : ∀ (a : Addr) (oe : Obj) (cls : Value) (d : Option Addr) (pn : List (Addr × Obj)), Zc cls d oe → (∃ vs, oe.data = .fields vs) → PSs (X.suite a ((a, oe) :: pn)) (b₀ :: suite) (ts a cls d)) (r : MixOk X hds l) :
      MixOk X (.ExceptHandler (some (.Name x np)) (some n) (b₀ :: suite) pos' :: hds) ((c, some i, ts) :: l)
section
variable {X : Cx} {body : List Stmt} {h₀ : ExceptHandler} {hds : List ExceptHandler} {l : List ClT} {pos : Pos} {tb : WX → TS} {Wout : WX}
theorem ps_try_mix (hs : X.stack = X.env :: X.outer) (hf : X.env.frame = some X.env.locals) (tk : Takes X Wout)
    (hb : ∀ (W : WX) (pn : List (Addr × Obj)) (xe : Value → Shared → Prop), Takes (X.tr pn xe) W → PassesOwn (model X.prog X.w) X.A X.env xe → PSs (X.tr pn xe) body (tb W))
    (hh : MixOk X (h₀ :: hds) l) : PS X (.Try body (h₀ :: hds) [] [] pos) (fun D σ H => tb (wMix X.K Wout D l) D σ H) := by
  refine ⟨fun pins s σ H D I h => ?_⟩
  have ok := I.ok
  have hfr : X.A.frames = some (X.env :: X.outer) := by rw [ok.frames, hs]
  refine wpAny_Try_except ?_
  refine wpAny_mono ((hb (wMix X.K Wout D l) (X.pn ++ pins) (fun e s₁ => wpAny (model X.prog X.w) X.A (noteFrame e X.env) (fun _ s₂ => wpAny (model X.prog X.w) X.A (setFlight e none) (fun _ s₃ =>
    wpAny (model X.prog X.w) X.A (handleBy e X.env (h₀ :: hds)) (SP X pins D) X.xe s₃) X.xe s₂) X.xe s₁) (fun u s' xx => ?_) PassesOwn.looking).run [] s σ H D (I.toTry _) h) (fun f s1 hsp => ?_) (fun e s1 he => he)
  · -- what was raised
    obtain ⟨a, B, sI, pins', σ', H', cls, d, rfl, J', nb, up, sky, na, os, ag, w⟩ := xx
    have J : Inv X pins σ' H' sI := J'.ofTry ok
    have sky' : Sky B (X.env :: X.outer) a (Zc cls d) X.env.locals s'.heap := by rw [← hs]; exact sky
    show wpAny (model X.prog X.w) X.A (noteFrame (.ref a) X.env) _ _ _
    refine Sky.land Zc.steady hfr hf sky' fun h3 fl3 up3 => ?_
    have J3 : Inv X pins σ' H' { s' with heap := h3 } := J.landed nb fl3.1 (up.trans up3) os ag
    obtain ⟨oe3, vs3, he3, hz3, hd3⟩ := fl3.there
    have nfr : a ∉ frs (X.env :: X.outer) := fun hm => by
      obtain ⟨_, o', e', hnf⟩ := fl3.2.2.1.mem hm
      rw [he3] at e'; cases e'
      exact hnf _ hd3
    have nL : a ≠ X.env.locals := fun z => nfr (List.mem_filterMap.mpr ⟨X.env, List.mem_cons_self, by rw [hf, z]⟩)
    have nF : a ∉ X.fs := fun hm => by
      obtain ⟨e, he, q⟩ := List.mem_filterMap.mp hm
      exact nfr (List.mem_filterMap.mpr ⟨e, List.mem_cons_of_mem _ he, q⟩)
    have S3 := J3.suite he3 hd3 na nL nF
    have LT : PySem.W.Looks (model X.prog X.w) h3 (typeOf (.ref a)) cls := fun A Q E s k q => wpAny_typeOf_ref (k _ _ he3) (by rw [hz3.1]; exact q)
    have test : ∀ {x : Str} {np : Pos} {c : Value} {Q : Value → Shared → Prop} {E : Value → Shared → Prop}, Names X x c → Q c { s' with heap := h3 } → wpAny (model X.prog X.w) (X.A.mark (some (.ref a))) (eval (.Name x np) X.env) Q E { s' with heap := h3 } := fun {x np c Q E} hc q => by
      obtain ⟨hg, hdbg, hm | ⟨hm, hv, hnn⟩⟩ := hc
      · exact ld_glob (X := X.suite a ((a, oe3) :: (X.pn ++ pins))) S3 hg hm q hdbg
      · exact ld_blt (X := X.suite a ((a, oe3) :: (X.pn ++ pins))) S3 hg hm hv q hnn hdbg
    have walk : ∀ {hds' : List ExceptHandler} {l' : List ClT}, MixOk X hds' l' → wMix X.K Wout D l' cls d σ' H' →
        wpAny (model X.prog X.w) X.A (handleBy (.ref a) X.env hds') (SP X pins D) X.xe { s' with heap := h3 } := by
      intro hds' l' hk
      induction hk with
      | nil =>
        intro w
        refine wpAny_handleBy_nil ?_
        obtain ⟨k1, k2, k3, oe, vs, T, oT, ts', he, hz, hd, h1, hr⟩ := id fl3
        unfold PySem.passOn
        refine wpAny_bind (wpAny_field he hd h1 ?_)
        rw [if_neg (show ¬ ((Value.ref T == Value.none) = true) from by simp)]
        have fin : wpAny (model X.prog X.w) X.A (setFlight (.ref a) X.env.frame) (fun _ s4 => wpAny (model X.prog X.w) X.A (throw (.ref a) : Sem Flow) (SP X pins D) X.xe s4) X.xe { s' with heap := h3 } := by
          rw [hf]
          refine HandSPX.setFlight_upZ fl3 fun h4 hh4 up4 => wpAny_throw (tk _ _ ?_)
          exact ⟨a, B, sI, pins, σ', H', cls, d, rfl, J, nb, (up.trans up3).trans up4, .inr (.inr (by rw [hs]; exact hh4)), na, os, ag, w⟩
        first
          | exact wpAny_bind (wpAny_pure (wpAny_bind fin))
          | exact wpAny_bind fin
      | @un x c ts b₀ suite np pos' hds2 l2 hc hsu r ih =>
        intro w
        obtain ⟨b, hb1, hyes, hno⟩ := w
        refine wpAny_handleBy_cons (codeAny_handlers_test ?_) (by intro q; cases q)
        refine test hc ((PySem.W.exm_one (M := model X.prog X.w) (J3.kIn) LT hb1).here ?_)
        cases b with
        | true =>
          refine codeAny_handlers_suite (HandSPX.lands_againZ fl3 fun h4 fl4 up4 => ?_)
          have J4 : Inv X pins σ' H' { s' with heap := h4 } := J.landed nb fl4.1 ((up.trans up3).trans up4) os ag
          obtain ⟨oe4, vs4, he4, hz4, hd4⟩ := fl4.there
          refine wpAny_mono ((hsu a oe4 cls d (X.pn ++ pins) hz4 ⟨_, hd4⟩).run [] _ _ H' _ (J4.suite he4 hd4 na nL nF) (hyes rfl a na)) (fun f s6 hsp => ?_) (fun _ _ z => False.elim z)
          cases f with
          | ret u =>
            obtain ⟨v6, σ6, H6, S6, r6, q6⟩ := hsp
            exact ⟨_, _, _, S6.unsuite ok, r6, q6⟩
          | _ =>
            obtain ⟨σ6, H6, S6, q6⟩ := hsp
            exact ⟨_, _, S6.unsuite ok, q6⟩
        | false => exact ih (hno rfl)
      | @nm x n i c ts b₀ suite np pos' hds2 l2 hN hi hln hc hsu r ih =>
        intro w
        obtain ⟨b, hb1, hyes, hno⟩ := w
        refine wpAny_handleBy_cons (codeAny_handlers_test ?_) (by intro q; cases q)
        refine test hc ((PySem.W.exm_one (M := model X.prog X.w) (J3.kIn) LT hb1).here ?_)
        cases b with
        | true =>
          refine codeAny_handlers_suite_as (HandSPX.lands_againZ fl3 fun h4 fl4 up4 => ?_)
          have J4 : Inv X pins σ' H' { s' with heap := h4 } := J.landed nb fl4.1 ((up.trans up3).trans up4) os ag
          obtain ⟨oe4, vs4, he4, hz4, hd4⟩ := fl4.there
          refine store_ok (X := X.suite a ((a, oe4) :: (X.pn ++ pins))) (v := .ref a) (J4.suite he4 hd4 na nL nF) hN hi (.inl hln) rfl (fun s5 S5 => ?_) (.inr hln)
          refine wpAny_mono ((hsu a oe4 cls d (X.pn ++ pins) hz4 ⟨_, hd4⟩).run [] s5 _ H' _ S5 (hyes rfl a na)) (fun f s6 hsp => ?_) (fun _ _ z => False.elim z)
          have gone : ∀ {σ6 : St} {H6 : Hp} {Q : Shared → Prop}, Inv (X.suite a ((a, oe4) :: (X.pn ++ pins))) [] σ6 H6 s6 → (∀ s7, Inv X pins (σ6.set i none) H6 s7 → Q s7) →
              wpAny (model X.prog X.w) X.A (do bindName X.env n .none; unbindBehindTheSuite X.env n pos') (fun _ s7 => Q s7) X.xe s6 := fun {σ6 H6 Q} S6 hq => gone_ok (S6.unsuite ok) hN hi hln hq
          cases f with
          | ret u =>
            obtain ⟨v6, σ6, H6, S6, r6, q6⟩ := hsp
            exact gone S6 fun s7 J7 => ⟨_, _, _, J7, r6, q6⟩
          | _ =>
            obtain ⟨σ6, H6, S6, q6⟩ := hsp
            exact gone S6 fun s7 J7 => ⟨_, _, J7, q6⟩
        | false => exact ih (hno rfl)
    exact walk hh w
  · cases f with
    | next =>
      obtain ⟨σ', H', J', q⟩ := hsp
      exact wpAny_execs_nil ⟨σ', H', J'.ofTry ok, q⟩
    | ret u =>
      obtain ⟨v, σ', H', J', r, q⟩ := hsp
      exact ⟨v, σ', H', J'.ofTry ok, r, q⟩
    | _ =>
      obtain ⟨σ', H', J', q⟩ := hsp
      exact ⟨σ', H', J'.ofTry ok, q⟩
end

/-! ### .. as values -/
inductive Hd where
  | un (mt : Nat → Option Bool) (s : Env → Out)
  | nm (mt : Nat → Option Bool) (i : Nat) (g : Nat → List (Str × PV) → R PV)
def tryH (c : Nat) (fs : List (Str × PV)) (ρ : Env) : List Hd → Out
  | [] => .exc c fs ρ
  | .un mt s :: r => match mt c with
    | some true => match s ρ with
      | .exc _ _ _ => .stuck
      | o => o
    | some false => tryH c fs ρ r
    | none => .stuck
  | .nm mt i g :: r => match mt c with
    | some true => if i < ρ.length then match g c fs with
      | .ok v => .ret v
      | _ => .stuck
      else .stuck
    | some false => tryH c fs ρ r
    | none => .stuck
def sTry (s : Env → Out) (hs : List Hd) : Env → Out := fun ρ => match s ρ with
  | .exc c fs ρ' => tryH c fs ρ' hs
  | o => o

/-! the suites that name the error: fields, written constants, tuples -/
section
variable (K : PySem.W.Frag) (cl : Nat → Addr) (i : Nat) (a : Addr) (cls : Value) (d : Option Addr)
def gx {α β : Type} (rel : Hp → β → α → Prop) (f : Nat → List (Str × PV) → R α) : St → Hp → (β → Hp → Prop) → Prop := fun σ H Q =>
  ∃ Hs c dd fvs fs, σ[i]? = some (some (.ref a)) ∧ cls = .ref (cl c) ∧ d = some dd ∧ Sub Hs H ∧ Hs dd = some (.xd fvs) ∧ RpF K cl Hs fvs fs ∧
    match f c fs with
    | .ok v => ∀ x Hs' H', Ext Hs H Hs' H' → rel Hs' x v → Q x H'
    | _ => False
end
abbrev Xx (α : Type) := Nat → List (Str × PV) → R α
def xC (v : PV) : Xx PV := fun _ _ => .ok v
def lkF (f : Str) : List (Str × PV) → Option PV
  | [] => none
  | (k, v) :: r => if f = k then some v else lkF f r
def xF (c0 : Nat) (f : Str) : Xx PV := fun c fs => if c = c0 then opt (lkF f fs) else .stuck
def xNil : Xx (List PV) := fun _ _ => .ok []
def xCons (f : Xx PV) (r : Xx (List PV)) : Xx (List PV) := fun c fs => (f c fs).bind fun x => (r c fs).bind fun xs => .ok (x :: xs)
def xTup (r : Xx (List PV)) : Xx PV := fun c fs => (r c fs).bind gTupV
theorem lkF_ok {K : PySem.W.Frag} {cl : Nat → Addr} {Hs : Hp} {f : Str} {v : PV} : ∀ {fvs : List (Str × V)} {fs : List (Str × PV)}, RpF K cl Hs fvs fs → lkF f fs = some v → ∃ x, fvs.lookup f = some x ∧ Rp K cl Hs x v
  | _, _, .nil, h => by cases h
  | _, _, .cons (k := k) (v := y) (vs := vs) (x := z) (xs := xs) r t, h => by
    replace h : (if f = k then some z else lkF f xs) = some v := h
    by_cases e : f = k
    · rw [if_pos e] at h
      cases h
      exact ⟨y, by subst e; simp [List.lookup], r⟩
    · rw [if_neg e] at h
      obtain ⟨x, h1, h2⟩ := lkF_ok t h
      have e2 : (f == k) = false := by simpa using e
      exact ⟨x, by simp only [List.lookup, e2]; exact h1, h2⟩
section
variable {X : Cx} {cl : Nat → Addr} {i : Nat} {a : Addr} {cls : Value} {d : Option Addr} {oe : Obj} {pn : List (Addr × Obj)} {pos : Pos}
abbrev PXv (X : Cx) (cl : Nat → Addr) (i : Nat) (a : Addr) (cls : Value) (d : Option Addr) (oe : Obj) (pn : List (Addr × Obj)) (e : Expr) (f : Xx PV) : Prop := PE (X.suite a ((a, oe) :: pn)) e (gx X.K cl i a cls d (Rp X.K cl) f)
abbrev PXa (X : Cx) (cl : Nat → Addr) (i : Nat) (a : Addr) (cls : Value) (d : Option Addr) (oe : Obj) (pn : List (Addr × Obj)) (e : List Expr) (f : Xx (List PV)) : Prop := PA (X.suite a ((a, oe) :: pn)) e (gx X.K cl i a cls d (RpA X.K cl) f)
theorem xx_c {v : V} {u : PV} {e : Expr} (h : PE (X.suite a ((a, oe) :: pn)) e (tC v)) (r : ∀ H, Rp X.K cl H v u) : PXv X cl i a cls d oe pn e (xC u) :=
  peWeak h fun σ H Q ⟨Hs, c, dd, fvs, fs, _, _, _, s, _, _, q⟩ => q v Hs H (Ext.refl s) (r _)
theorem xx_int {n j} : PXv X cl i a cls d oe pn (.Constant (.int n) j pos) (xC (.int n)) := xx_c pe_int fun _ => .int n
theorem xx_bl {n j} : PXv X cl i a cls d oe pn (.Constant (.bool n) j pos) (xC (.bl n)) := xx_c pe_bl fun _ => .bl n
theorem xx_non {j} : PXv X cl i a cls d oe pn (.Constant .none j pos) (xC .non) := xx_c pe_non fun _ => .non
theorem xx_str {n j} : PXv X cl i a cls d oe pn (.Constant (.str n) j pos) (xC (.str n)) := xx_c pe_str fun _ => .str n
theorem xx_fld {x n : Str} {px : Pos} {c0 : Nat} {C : Addr} (T : XfC X.K C) (hno : PySem.W.findIn X.K (.ref C) n = some none) (hC : C = cl c0) (hz : Zc cls d oe) (hf : ∃ vs, oe.data = .fields vs) (hN : X.N[i]? = some x := by rfl) (hv : Vis X.env.scope x := by first | exact Or.inl rfl | exact Or.inr (Or.inl rfl) | exact Or.inr (Or.inr rfl)) (hd : (x == ("__debug__" : Str)) = false := by decide)
    (hcd : (x == ("__classdict__" : Str)) = false := by decide) (hb : attributeBase (.Name x px) n X.env (eval (.Name x px) X.env) = eval (.Name x px) X.env := by rfl) : PXv X cl i a cls d oe pn (.Attribute (.Name x px) n pos) (xF c0 n) :=
  peWeak (pe_xf T hno hz hf (pe_var (X := X.suite a ((a, oe) :: pn)) (i := i) hN hv hd hcd) hb) fun σ H Q ⟨Hs, c, dd, fvs, fs, h1, h2, h3, s, h4, h5, q⟩ => by
    unfold xF at q
    split at q
    · rename_i v hq
      split at hq
      · rename_i ec
        subst ec
        cases e : lkF n fs with
        | none => rw [e] at hq; cases hq
        | some w =>
          rw [e] at hq
          cases hq
          obtain ⟨y, g1, g2⟩ := lkF_ok h5 e
          exact ⟨.ref a, h1, rfl, by rw [hC]; exact h2, dd, fvs, y, h3, s _ _ h4, g1, q y Hs H (Ext.refl s) g2⟩
      · cases hq
    · exact q.elim
theorem gx_up {α β : Type} {K : PySem.W.Frag} {rel : Hp → β → α → Prop} {f : Xx α} {σ : St} {H : Hp} {Q : β → Hp → Prop} : gx K cl i a cls d rel f σ H Q ↔ gx K cl i a cls d rel f σ H Q := Iff.rfl
theorem xa_nil : PXa X cl i a cls d oe pn [] xNil := paWeak pa_nil fun σ H Q ⟨Hs, c, dd, fvs, fs, _, _, _, s, _, _, q⟩ => q [] Hs H (Ext.refl s) .nil
theorem xa_cons {e : Expr} {es : List Expr} {f : Xx PV} {r : Xx (List PV)} (ha : PXv X cl i a cls d oe pn e f) (hr : PXa X cl i a cls d oe pn es r) (hs : starEach (e :: es) X.env = (false, eval e X.env) :: starEach es X.env := by rfl) : PXa X cl i a cls d oe pn (e :: es) (xCons f r) :=
  paWeak (pa_cons ha hr hs) fun σ H Q ⟨Hs, c, dd, fvs, fs, h1, h2, h3, s, h4, h5, q⟩ => by
    unfold xCons at q
    refine ⟨Hs, c, dd, fvs, fs, h1, h2, h3, s, h4, h5, ?_⟩
    cases e1 : f c fs with
    | ok v =>
      rw [e1] at q
      intro x Hs1 H1 s1 rx
      refine ⟨Hs1, c, dd, fvs, fs, h1, h2, h3, s1.sub, s1.fs _ _ h4, h5.mono s1.fs, ?_⟩
      cases e2 : r c fs with
      | ok vs =>
        rw [e2] at q
        exact fun xs Hs2 H2 s2 rxs => q (x :: xs) Hs2 H2 (s1.trans s2) (.cons (rx.mono s2.fs) rxs)
      | exc c' fs' => rw [e2] at q; exact q.elim
      | stuck => rw [e2] at q; exact q.elim
    | exc c' fs' => rw [e1] at q; exact q.elim
    | stuck => rw [e1] at q; exact q.elim
theorem xx_tup {es : List Expr} {x1} {r : Xx (List PV)} (h : PXa X cl i a cls d oe pn es r) : PXv X cl i a cls d oe pn (.Tuple es x1 pos) (xTup r) :=
  peWeak (pe_tup h) fun σ H Q ⟨Hs, c, dd, fvs, fs, h1, h2, h3, s, h4, h5, q⟩ => by
    unfold xTup at q
    refine ⟨Hs, c, dd, fvs, fs, h1, h2, h3, s, h4, h5, ?_⟩
    cases e1 : r c fs with
    | ok vs =>
      rw [e1, bind_ok] at q
      intro x Hs1 H1 s1 rx
      unfold gTupV at q
      by_cases hl : vs.length ≤ sizeLine
      · rw [if_pos hl] at q
        refine ⟨by rw [rx.length]; exact hl, fun p n => ?_⟩
        exact q (.ref p) (upd Hs1 p (.tup x)) _ (s1.trans (Ext.new s1.sub n)) (.tup (.of upd_same) (rx.mono (Sub.new (s1.sub.none n))))
      · rw [if_neg hl] at q; exact q.elim
    | exc c' fs' => rw [e1] at q; exact q.elim
    | stuck => rw [e1] at q; exact q.elim
/-- the suite's reading -/
def tSx (K : PySem.W.Frag) (cl : Nat → Addr) (i : Nat) (g : Xx PV) : SuT := fun a cls d D σ H => gx K cl i a cls d (Rp K cl) g σ H fun x H' => D.rt x H'
theorem sx_ret {e : Expr} {g : Xx PV} (h : PXv X cl i a cls d oe pn e g) : PSs (X.suite a ((a, oe) :: pn)) [.Return (some e) pos] (tSx X.K cl i g a cls d) := pss_one (ps_ret h)
end
/-- what the clauses are -/
inductive HdsV (X : Cx) (cl : Nat → Addr) (He H0 : Hp) : List ExceptHandler → List Hd → List ClT → Prop
  | nil : HdsV X cl He H0 [] [] []
  | un {x : Str} {c : Value} {mt : Nat → Option Bool} {s : Env → Out} {b₀ : Stmt} {suite : List Stmt} {np pos' : Pos} {hds : List ExceptHandler} {l : List Hd} {l' : List ClT} (hc : Names X x c) (hm : ∀ k b, mt k = some b → PySem.W.exmOne X.K (.ref (cl k)) c = some b)
      (hsu : ∀ (a : Addr) (oe : Obj) (pn : List (Addr × Obj)), (∃ vs, oe.data = .fields vs) → PVs (X.suite a ((a, oe) :: pn)) cl W0 He H0 (b₀ :: suite) s) (r : HdsV X cl He H0 hds l l') :
      HdsV X cl He H0 (.ExceptHandler (some (.Name x np)) none (b₀ :: suite) pos' :: hds) (.un mt s :: l) ((c, none, fun _ _ _ => ts X.K cl He H0 W0 s) :: l')
  | nm {x n : Str} {i : Nat} {c : Value} {mt : Nat → Option Bool} {g : Xx PV} {b₀ : Stmt} {suite : List Stmt} {np pos' : Pos} {hds : List ExceptHandler} {l : List Hd} {l' : List ClT} (hN : X.N.Nodup) (hi : X.N[i]? = some n) (hln : X.env.kindOf n = some .local) (hc : Names X x c) (hm : ∀ k b, mt k = some b → PySem.W.exmOne X.K (.ref (cl k)) c = some b)
      (hsu : ∀ (a : Addr) (oe : Obj) (cls : Value) (d : Option Addr) (pn : List (Addr × Obj)), Zc cls d oe → (∃ vs, oe.data = .fields vs) → PSs (X.suite a ((a, oe) :: pn)) (b₀ :: suite) (tSx X.K cl i g a cls d)) (r : HdsV X cl He H0 hds l l') :
      HdsV X cl He H0 (.ExceptHandler (some (.Name x np)) (some n) (b₀ :: suite) pos' :: hds) (.nm mt i g :: l) ((c, some i, tSx X.K cl i g) :: l')
section
variable {X : Cx} {cl : Nat → Addr} {He H0 : Hp}
theorem HdsV.mix {hds : List ExceptHandler} {l : List Hd} {l' : List ClT} (h : HdsV X cl He H0 hds l l') : MixOk X hds l' := by
  induction h with
  | nil => exact .nil
  | un hc hm hsu r ih => exact .un hc (fun a oe cls d pn _ hf => hsu a oe pn hf) ih
  | nm hN hi hln hc hm hsu r ih => exact .nm hN hi hln hc hsu ih
theorem HdsV.use {W : WX} {D : Ends} {hds : List ExceptHandler} {l : List Hd} {l' : List ClT} (h : HdsV X cl He H0 hds l l') {c : Nat} {fs : List (Str × PV)} {ρ : Env} {Hs : Hp} (p : Post X.K cl He H0 W Hs D (tryH c fs ρ l)) {σ : St} {Hs' H' : Hp} {d : Addr} {fvs : List (Str × V)} (up : Sub Hs Hs') (S : SEnv X.K cl He H0 Hs' H' σ ρ)
    (e : Hs' d = some (.xd fvs)) (r : RpF X.K cl Hs' fvs fs) : wMix X.K W D l' (.ref (cl c)) (some d) σ H' := by
  induction h with
  | nil => exact p σ Hs' H' d fvs up S e r
  | @un x cv mt s b₀ suite np pos' hds2 l2 l3 hc hm hsu r2 ih =>
    unfold tryH at p
    cases em : mt c with
    | none => rw [em] at p; exact p.elim
    | some b =>
      rw [em] at p
      refine ⟨b, hm _ _ em, fun hb a na => ?_, fun hb => ?_⟩
      · subst hb
        refine ⟨Hs', ρ, S, ?_⟩
        cases es : s ρ with
        | exc c' fs' ρ' => simp only [es] at p; exact p.elim
        | stuck => simp only [es] at p; exact p.elim
        | next ρ' => simp only [es] at p; exact Post.up (W := W0) (o := .next ρ') p up
        | brk ρ' => simp only [es] at p; exact Post.up (W := W0) (o := .brk ρ') p up
        | cont ρ' => simp only [es] at p; exact Post.up (W := W0) (o := .cont ρ') p up
        | ret v => simp only [es] at p; exact p
      · subst hb
        exact ih p
  | @nm x n i cv mt g b₀ suite np pos' hds2 l2 l3 hN hi hln hc hm hsu r2 ih =>
    unfold tryH at p
    cases em : mt c with
    | none => rw [em] at p; exact p.elim
    | some b =>
      rw [em] at p
      refine ⟨b, hm _ _ em, fun hb a na => ?_, fun hb => ?_⟩
      · subst hb
        simp only at p
        split at p
        · rename_i hl
          rw [← S.len] at hl
          refine ⟨Hs', c, d, fvs, fs, by rw [List.getElem?_set_self hl], rfl, rfl, S.sub, e, r, ?_⟩
          cases eg : g c fs with
          | ok v =>
            simp only [eg] at p
            exact fun x Hs1 H1 s1 rx => p x Hs1 H1 (S.ext.trans s1) rx
          | exc c' fs' => simp only [eg] at p; exact p.elim
          | stuck => simp only [eg] at p; exact p.elim
        · exact p.elim
      · subst hb
        exact ih p
/-- the rule -/
theorem vs_try {W : WX} {body : List Stmt} {h₀ : ExceptHandler} {hds : List ExceptHandler} {l : List Hd} {l' : List ClT} {pos : Pos} {s : Env → Out} (hs : X.stack = X.env :: X.outer) (hf : X.env.frame = some X.env.locals) (tk : Takes X W)
    (hb : ∀ (W : WX) (pn : List (Addr × Obj)) (xe : Value → Shared → Prop), Takes (X.tr pn xe) W → PassesOwn (model X.prog X.w) X.A X.env xe → PVs (X.tr pn xe) cl W He H0 body s)
    (hh : HdsV X cl He H0 (h₀ :: hds) l l') : PV1 X cl W He H0 (.Try body (h₀ :: hds) [] [] pos) (sTry s l) :=
  psWeak (ps_try_mix (tb := fun W => ts X.K cl He H0 W s) hs hf tk hb hh.mix) fun D σ H ⟨Hs, ρ, S, p⟩ => by
    refine ⟨Hs, ρ, S, ?_⟩
    unfold sTry at p
    cases es : s ρ with
    | exc c fs ρ' =>
      simp only [es] at p
      exact fun σ' Hs' H' d fvs up S' e r => hh.use p up S' e r
    | stuck => simp only [es] at p; exact p.elim
    | next ρ' => simp only [es] at p; exact p
    | brk ρ' => simp only [es] at p; exact p
    | cont ρ' => simp only [es] at p; exact p
    | ret v => simp only [es] at p; exact p
end
/-! ### raise C() -/
section
variable {X : Cx} {cl : Nat → Addr} {W : WX} {He H0 : Hp} {pos p p2 : Pos} {x : Str} {k : Nat} {C fI : Addr} {fd : FuncData} {ps : List Str} {sp : Fsp}
theorem pmk_none {spx : Sp} (T : OexC X.K C) (iC : PySem.W.findIn X.K (.ref C) "__init__" = some (some (.ref fI))) (tI : PySem.W.typeIn X.K (.ref fI) = some (.type "function"))
    (F : FnOk X.prog X.w X.K X.mg X.base (L2.CX X.prog X.w) k fI fd ps spx) (hr : Room (k + 1) X.A) (hb : Binds X.K fd ps []) (hx : Passes (L2.CX X.prog X.w) X (fun _ _ _ => False)) (hg : Gl X x) (hm : X.mg x = some (.ref C))
    (hdb : (x == ("__debug__" : Str)) = false := by decide) : PMk X (.Call (.Name x p) [] [] pos) (tMkO C spx [] tNil) := by
  intro pins s σ H Q I h
  obtain ⟨nm, q, N, bs, bm, sn, sub, ab, col, dd, k0, k1, k2, k3, k5, hC, hbm⟩ := T.cls
  refine wpAny_Call_Name_kw (ld_glob I hg hm (PySem.W.callWith_K0 I.kIn T.kC ?_) hdb)
  obtain ⟨hz, q1⟩ := h
  obtain ⟨hp, g, dr, tk, os⟩ := s
  have hsz : hp.objs.size ≤ hp.objs.size + 1 := Nat.le_succ _
  have hq := q1 (hp.objs.size + 1) (I.hok.fresh hsz)
  have keep : ∀ b o, hp.get? b = some o → ((hp.push (PySem.W.kdv_tup [])).push (PySem.HandSPX.excO C hp.objs.size)).get? b = some o := fun b o e => Heap.get?_push_of_some _ (Heap.get?_push_of_some _ e)
  have hget : ((hp.push (PySem.W.kdv_tup [])).push (PySem.HandSPX.excO C hp.objs.size)).get? (hp.objs.size + 1) = some (PySem.HandSPX.excO C hp.objs.size) := by heap_get
  have I2 : Inv X pins σ (upd H (hp.objs.size + 1) (exo (hp.objs.size + 1) C none)) ⟨(hp.push (PySem.W.kdv_tup [])).push (PySem.HandSPX.excO C hp.objs.size), g, dr, tk, os⟩ :=
    I.laid (t' := tk) (a := hp.objs.size + 1) (o := exo (hp.objs.size + 1) C none) (h' := (hp.push (PySem.W.kdv_tup [])).push (PySem.HandSPX.excO C hp.objs.size)) keep hsz (exo_ok hget)
  have hl : ([Value.ref (hp.objs.size + 1)] : List Value).length = ps.length := (F.len _ _ _ _ hq)
  refine wpAny_call (PySem.HandSPX.call_own PySem.F.excBase_ValueError (fun Y => PySem.HandSPX.refsVE_contains Y bm hbm) (I.kIn _ _ hC) (PySem.W.looks_findIn I.kIn iC) (fun self => PySem.W.bind_fn I.kIn self tI) (by rw [sizeLine_eq]; exact Nat.zero_le _)
    (codeAny_mono (F.run _ X.stack _ _ ⟨[Value.ref (hp.objs.size + 1)], []⟩ [Value.ref (hp.objs.size + 1)] [V.ref (hp.objs.size + 1)] _ (fun _ _ _ => False) (hr.make C [] []) (I2.env0.make C [] []) (by have := hb _ [Value.ref (hp.objs.size + 1)] I2.kIn hl; exact this) (.cons rfl .nil) hq) fun r s' hq' => ?_))
  cases r with
  | error er => exact hx pins σ _ _ er s' I2 hq'
  | ok fl =>
    cases fl with
    | ret u =>
      obtain ⟨v, H2, os2, bare2, un2, hok2, rv, ev, d, fs, ea, ed, hd1, q2⟩ := hq'
      subst ev
      obtain ⟨h2, g2, d2, t2, os'⟩ := s'
      exact ⟨rv, mk_end (raises_own T.exC T.tyC) I hsz keep un2 hok2 os2 bare2 ea ed hd1 q2⟩
    | next => exact False.elim hq'
    | brk => exact False.elim hq'
    | cont => exact False.elim hq'
theorem vs_raise0 {bs : List Bool} {c : Nat} (hcalm : X.calm = true) (tk : Takes X W) (T : OexC X.K C) (iC : PySem.W.findIn X.K (.ref C) "__init__" = some (some (.ref fI))) (tI : PySem.W.typeIn X.K (.ref fI) = some (.type "function"))
    (F : FnOk X.prog X.w X.K X.mg X.base (L2.CX X.prog X.w) k fI fd ps (spI C 0 sp)) (hr : Room (k + 1) X.A) (hb : Binds X.K fd ps []) (hm : X.mg x = some (.ref C)) (hC : C = cl c)
    (hg : Gl X x := by rfl) (hdb : (x == ("__debug__" : Str)) = false := by decide) :
    PV1 X cl W He H0 (.Raise (some (.Call (.Name x p) [] [] p2)) none pos) (sRaise c (mkFs 0 sp) bs []) :=
  psWeak (ps_raise hcalm tk (pmk_none T iC tI F hr hb (fun _ _ _ _ _ _ _ h => by
    obtain ⟨_, _, _, _, _, _, _, _, _, _, _, _, z⟩ := h
    exact z.elim) hg hm hdb)) fun D σ H h => by
      have q := er_use (X := X) (W := W) (He := He) (H0 := H0) (n := 0) (ta' := tNil) (D := D) hC h
      obtain ⟨Hs, ρ, E, q⟩ := q
      exact q.here E.sub .nil
end
end VL
namespace VL
open PySem PySem.Spec PyProof.Rows L2
/-! ### what a law's text gives, by names -/
section
variable (P : Program) (w : World) (K : PySem.W.Frag) (mg : Str → Option Value) (base : Heap) (cl : Nat → Addr)
/-- a def by its name -/
structure DefAt (k : Nat) (x : Str) (n : Nat) (g : List PV → R PV) : Prop where
  ex : ∃ (f : Addr) (fd : FuncData) (ps : List Str), FnOk P w K mg base (L2.CX P w) k f fd ps (spF K cl n g) ∧ mg x = some (.ref f) ∧ PySem.W.keepIn K (.ref f) = true ∧ Binds K fd ps []
/-- an own error by its name: its number, its __init__'s arguments and fields -/
structure ExcAt (k : Nat) (x : Str) (c n : Nat) (sp : Fsp) : Prop where
  ex : ∃ (C fI : Addr) (fd : FuncData) (ps : List Str), OexC K C ∧ PySem.W.findIn K (.ref C) "__init__" = some (some (.ref fI)) ∧ PySem.W.typeIn K (.ref fI) = some (.type "function") ∧ FnOk P w K mg base (L2.CX P w) k fI fd ps (spI C n sp) ∧ Binds K fd ps [] ∧ mg x = some (.ref C) ∧ C = cl c
/-- a class that an except clause names -/
structure ExmAt (x : Str) (mt : Nat → Option Bool) : Prop where
  ex : ∃ C : Addr, mg x = some (.ref C) ∧ ∀ k b, mt k = some b → PySem.W.exmOne K (.ref (cl k)) (.ref C) = some b
/-- a field of a caught error -/
structure FldAt (c : Nat) (f : Str) : Prop where
  xf : XfC K (cl c)
  no : PySem.W.findIn K (.ref (cl c)) f = some none
end
section
variable {X : Cx} {cl : Nat → Addr} {W : WX} {He H0 : Hp} {pos p p2 : Pos} {x : Str} {k n : Nat} {g : List PV → R PV}
theorem vc {e : Expr} {es : List Expr} {fs : List Ex} (D : DefAt X.prog X.w X.K X.mg X.base cl k x n g) (hr : Room k X.A) (tk : Takes X W) (ha : PA X (e :: es) (ta X.K cl W (evs fs)))
    (hg : Gl X x := by rfl) (hdb : (x == ("__debug__" : Str)) = false := by decide) (he : starEach (e :: es) X.env = (false, eval e X.env) :: starEach es X.env := by rfl) (hpl : (backTo pos (starEach es X.env)).any (·.1) = false := by rfl) :
    PE X (.Call (.Name x p) (e :: es) [] pos) (tv X.K cl W (eArgs (gN n g) fs)) := by
  obtain ⟨f, fd, ps, F, hm, hk, hb⟩ := D.ex
  exact ve_call F hr hm hk hb tk ha hg hdb he hpl
theorem vc0 (D : DefAt X.prog X.w X.K X.mg X.base cl k x n g) (hr : Room k X.A) (tk : Takes X W) (hg : Gl X x := by rfl) (hdb : (x == ("__debug__" : Str)) = false := by decide) :
    PE X (.Call (.Name x p) [] [] pos) (tv X.K cl W (eArgs (gN n g) [])) := by
  obtain ⟨f, fd, ps, F, hm, hk, hb⟩ := D.ex
  exact ve_call0 F hr hm hk hb tk hg hdb
theorem vr {e : Expr} {es : List Expr} {fs : List Ex} {bs : List Bool} {c : Nat} {sp : Fsp} (D : ExcAt X.prog X.w X.K X.mg X.base cl k x c n sp) (hr : Room (k + 1) X.A) (hcalm : X.calm = true) (tk : Takes X W) (ha : PA X (e :: es) (ta X.K cl W (evs fs)))
    (hg : Gl X x := by rfl) (hdb : (x == ("__debug__" : Str)) = false := by decide) (he : starEach (e :: es) X.env = (false, eval e X.env) :: starEach es X.env := by rfl) (hpl : (backTo p2 (starEach es X.env)).any (·.1) = false := by rfl) :
    PV1 X cl W He H0 (.Raise (some (.Call (.Name x p) (e :: es) [] p2)) none pos) (sRaise c (mkFs n sp) bs fs) := by
  obtain ⟨C, fI, fd, ps, T, iC, tI, F, hb, hm, hC⟩ := D.ex
  exact vs_raise hcalm tk T iC tI F hr hb hm hC ha hg hdb he hpl
theorem vr0 {bs : List Bool} {c : Nat} {sp : Fsp} (D : ExcAt X.prog X.w X.K X.mg X.base cl k x c 0 sp) (hr : Room (k + 1) X.A) (hcalm : X.calm = true) (tk : Takes X W)
    (hg : Gl X x := by rfl) (hdb : (x == ("__debug__" : Str)) = false := by decide) : PV1 X cl W He H0 (.Raise (some (.Call (.Name x p) [] [] p2)) none pos) (sRaise c (mkFs 0 sp) bs []) := by
  obtain ⟨C, fI, fd, ps, T, iC, tI, F, hb, hm, hC⟩ := D.ex
  exact vs_raise0 hcalm tk T iC tI F hr hb hm hC hg hdb
/-- the clauses of a try, some reading of them -/
def Cls (X : Cx) (cl : Nat → Addr) (He H0 : Hp) (hds : List ExceptHandler) (l : List Hd) : Prop := ∃ l', HdsV X cl He H0 hds l l'
theorem hd_nil : Cls X cl He H0 [] [] := ⟨[], .nil⟩
theorem hd_un {mt : Nat → Option Bool} {s : Env → Out} {b₀ : Stmt} {suite : List Stmt} {np pos' : Pos} {hds : List ExceptHandler} {l : List Hd} (D : ExmAt X.K X.mg cl x mt)
    (hsu : ∀ (a : Addr) (oe : Obj) (pn : List (Addr × Obj)), (∃ vs, oe.data = .fields vs) → PVs (X.suite a ((a, oe) :: pn)) cl W0 He H0 (b₀ :: suite) s) (r : Cls X cl He H0 hds l) (hg : Gl X x := by rfl) (hdb : (x == ("__debug__" : Str)) = false := by decide) :
    Cls X cl He H0 (.ExceptHandler (some (.Name x np)) none (b₀ :: suite) pos' :: hds) (.un mt s :: l) := by
  obtain ⟨C, hm, hx⟩ := D.ex
  obtain ⟨l', r⟩ := r
  exact ⟨_, .un ⟨hg, hdb, .inl hm⟩ hx hsu r⟩
theorem hd_nm {y : Str} {i : Nat} {mt : Nat → Option Bool} {g : Xx PV} {b₀ : Stmt} {suite : List Stmt} {np pos' : Pos} {hds : List ExceptHandler} {l : List Hd} (D : ExmAt X.K X.mg cl x mt) (hN : X.N.Nodup)
    (hsu : ∀ (a : Addr) (oe : Obj) (cls : Value) (d : Option Addr) (pn : List (Addr × Obj)), Zc cls d oe → (∃ vs, oe.data = .fields vs) → PSs (X.suite a ((a, oe) :: pn)) (b₀ :: suite) (tSx X.K cl i g a cls d)) (r : Cls X cl He H0 hds l) (hi : X.N[i]? = some y := by rfl) (hln : X.env.kindOf y = some .local := by rfl) (hg : Gl X x := by rfl) (hdb : (x == ("__debug__" : Str)) = false := by decide) :
    Cls X cl He H0 (.ExceptHandler (some (.Name x np)) (some y) (b₀ :: suite) pos' :: hds) (.nm mt i g :: l) := by
  obtain ⟨C, hm, hx⟩ := D.ex
  obtain ⟨l', r⟩ := r
  exact ⟨_, .nm hN hi hln ⟨hg, hdb, .inl hm⟩ hx hsu r⟩
theorem vs_tr {body : List Stmt} {h₀ : ExceptHandler} {hds : List ExceptHandler} {l : List Hd} {s : Env → Out} (tk : Takes X W)
    (hb : ∀ (W : WX) (pn : List (Addr × Obj)) (xe : Value → Shared → Prop), Takes (X.tr pn xe) W → PassesOwn (model X.prog X.w) X.A X.env xe → PVs (X.tr pn xe) cl W He H0 body s)
    (hh : Cls X cl He H0 (h₀ :: hds) l) (hs : X.stack = X.env :: X.outer := by rfl) (hf : X.env.frame = some X.env.locals := by rfl) : PV1 X cl W He H0 (.Try body (h₀ :: hds) [] [] pos) (sTry s l) := by
  obtain ⟨l', hh⟩ := hh
  exact vs_try hs hf tk hb hh
theorem xx_f {px : Pos} {i c0 : Nat} {a : Addr} {cls : Value} {d : Option Addr} {oe : Obj} {pn : List (Addr × Obj)} {f : Str} (D : FldAt X.K cl c0 f) (hz : Zc cls d oe) (hf : ∃ vs, oe.data = .fields vs) (hN : X.N[i]? = some x := by rfl) (hv : Vis X.env.scope x := by first | exact Or.inl rfl | exact Or.inr (Or.inl rfl) | exact Or.inr (Or.inr rfl)) (hd : (x == ("__debug__" : Str)) = false := by decide)
    (hcd : (x == ("__classdict__" : Str)) = false := by decide) (hb : attributeBase (.Name x px) f X.env (eval (.Name x px) X.env) = eval (.Name x px) X.env := by rfl) : PXv X cl i a cls d oe pn (.Attribute (.Name x px) f pos) (xF c0 f) :=
  xx_fld D.xf D.no rfl hz hf hN hv hd hcd hb
end
theorem room64 {A : Around} {k : Nat} (hr : Room k A) : A.units + 64 < cLine := by have := hr.un; omega
theorem room65 {A : Around} {k : Nat} (hr : Room k A) : A.units + 65 < cLine := by have := hr.un; omega
theorem room0 {A : Around} {k : Nat} (hr : Room k A) : A.units < cLine := by have := hr.un; omega
theorem room2 {A : Around} {d : Nat} (hr : Room (d + 2) A) : Room 2 A := hr.mono (by omega)
/-! ### a comprehension's block, as a test -/
def kindB (a b : Option NameKind) : Bool := match a, b with
  | some .local, some .local => true
  | some .cell, some .cell => true
  | some .free, some .free => true
  | some .globalImplicit, some .globalImplicit => true
  | some .globalExplicit, some .globalExplicit => true
  | _, _ => false
theorem kindB_ok {a b : Option NameKind} (h : kindB a b = true) : a = b := by
  cases a with
  | none => cases b <;> cases h
  | some a => cases b with
    | none => cases a <;> cases h
    | some b => cases a <;> cases b <;> first | rfl | cases h
def freeB (k : NameKind) : Bool := match k with | .free => true | _ => false
def locB (k : NameKind) : Bool := match k with | .local => true | .cell => true | _ => false
def blkB (N : List Str) (sc scope : Scope) (own : List (Str × Nat)) : Bool :=
  (match scope.kind with | .function => true | _ => false) && (scope.names.all fun y => kindB (scope.names.lookup y.1) (some y.2)) && (own.all fun p => match N[p.2]? with | some z => z == p.1 | none => false) &&
  (scope.names.all fun y => !freeB y.2 || kindB (sc.names.lookup y.1) (some .cell) || kindB (sc.names.lookup y.1) (some .free)) && (scope.names.all fun y => !locB y.2 || (own.any fun p => p.1 == y.1) || !(N.any fun z => z == y.1))
theorem blk_of {N : List Str} {sc scope : Scope} {own : List (Str × Nat)} (h : blkB N sc scope own = true) : BlkOk N sc scope own := by
  unfold blkB at h
  simp only [Bool.and_eq_true, List.all_eq_true, Bool.or_eq_true, Bool.not_eq_true'] at h
  obtain ⟨⟨⟨⟨h1, h2⟩, h3⟩, h4⟩, h5⟩ := h
  refine ⟨?_, fun y hy => kindB_ok (h2 y hy), fun p hp => ?_, fun y hy e => ?_, fun y hy e => ?_⟩
  · revert h1
    cases scope.kind <;> intro h1 <;> first | rfl | cases h1
  · have := h3 p hp
    revert this
    cases N[p.2]? with
    | none => intro h; cases h
    | some z => intro h; rw [eq_of_beq h]
  · have := h4 y hy
    rw [e] at this
    rcases this with (h | h) | h
    · cases h
    · exact .inl (kindB_ok h)
    · exact .inr (kindB_ok h)
  · rcases h5 y hy with (h | h) | h
    · rcases e with e | e <;> (rw [e] at h; cases h)
    · refine .inl ?_
      rw [List.any_eq_true] at h
      obtain ⟨p, hp, e2⟩ := h
      rw [List.mem_map]
      exact ⟨p, hp, eq_of_beq e2⟩
    · refine .inr fun hm => ?_
      have : (N.any fun z => z == y.1) = true := List.any_eq_true.mpr ⟨y.1, hm, beq_self_eq_true _⟩
      rw [this] at h; cases h
/-! ### the table of the plain functions is made of these -/
theorem mem_tn {i : Nat} {own : List Nat} (h : own.contains i = true) : TgIn (tN i) own := tin_n (by simpa using h)
theorem tin_nil {own : List Nat} : ∀ t ∈ ([] : List Tg), TgIn t own := fun _ h => by simp at h
theorem tin_cons {t : Tg} {ts : List Tg} {own : List Nat} (h : TgIn t own) (r : ∀ t ∈ ts, TgIn t own) : ∀ u ∈ t :: ts, TgIn u own := fun u hu => by
  rcases List.mem_cons.mp hu with e | hu
  · rw [e]; exact h
  · exact r u hu
theorem wk_of {K : PySem.W.Frag} {cl : Nat → Addr} : ∀ Hs J xs, Wk K cl Hs J xs → Wk K cl Hs J xs := fun _ _ _ h => h
theorem wkA_of {K : PySem.W.Frag} {cl : Nat → Addr} : ∀ Hs J xs, WkA K cl Hs J xs → Wk K cl Hs J xs := fun _ _ _ h => h _
/-- constants of the module, read off the written part -/
def valP (K : PySem.W.Frag) : Nat → Value → Option PV
  | _, .none => some .non
  | _, .bool b => some (.bl b)
  | _, .int i _ => some (.int i)
  | _, .str s _ => some (.str s)
  | 0, .ref _ => none
  | n + 1, .ref a => match K.lookup a with
    | some ⟨.type t, _, .seq its _, _⟩ => if t = "tuple" ∧ its.size ≤ sizeLine then (its.toList.mapM (valP K n)).map .tup else none
    | _ => none
  | _, _ => none
theorem valP_ok {K : PySem.W.Frag} {cl : Nat → Addr} : ∀ {n : Nat} {v : Value} {u : PV}, valP K n v = some u → ∃ x : V, RelV x v ∧ ∀ H, Rp K cl H x u := by
  have base : ∀ {n : Nat} {v : Value} {u : PV}, (∀ a, v ≠ .ref a) → valP K n v = some u → ∃ x : V, RelV x v ∧ ∀ H, Rp K cl H x u := by
    intro n v u hr e
    cases v with
    | none => cases n <;> (cases e; exact ⟨.non, rfl, fun _ => .non⟩)
    | bool b => cases n <;> (cases e; exact ⟨.bl b, rfl, fun _ => .bl b⟩)
    | int i t => cases n <;> (cases e; exact ⟨.int i, ⟨_, rfl⟩, fun _ => .int i⟩)
    | str i t => cases n <;> (cases e; exact ⟨.str i, ⟨_, rfl⟩, fun _ => .str i⟩)
    | ref a => exact absurd rfl (hr a)
    | _ => cases n <;> cases e
  intro n
  induction n with
  | zero =>
    intro v u e
    cases v with
    | ref a => cases e
    | _ => exact base (fun a z => by cases z) e
  | succ n ih =>
    intro v u e
    cases v with
    | ref a =>
      unfold valP at e
      split at e
      · rename_i t od its k sl q
        split at e
        · rename_i hk
          obtain ⟨rfl, hz⟩ := hk
          rw [Option.map_eq_some_iff] at e
          obtain ⟨us, e1, rfl⟩ := e
          have go : ∀ (l : List Value) (us : List PV), l.mapM (valP K n) = some us → ∃ xs : List V, Vals xs l ∧ ∀ H, RpA K cl H xs us := by
            intro l
            induction l with
            | nil => intro us e; simp at e; subst e; exact ⟨[], .nil, fun _ => .nil⟩
            | cons v l ih2 =>
              intro us e
              simp only [List.mapM_cons, Option.bind_eq_bind, Option.bind_eq_some_iff] at e
              obtain ⟨y, e2, ys, e3, e4⟩ := e
              cases e4
              obtain ⟨x, g1, g2⟩ := ih e2
              obtain ⟨xs, g3, g4⟩ := ih2 ys e3
              exact ⟨x :: xs, .cons g1 g3, fun H => .cons (g2 H) (g4 H)⟩
          obtain ⟨xs, h1, h2⟩ := go _ _ e1
          exact ⟨.ref a, rfl, fun H => .tup (.inr ⟨_, its, k, q, rfl, rfl, hz, h1⟩) (h2 H)⟩
        · cases e
      · cases e
    | _ => exact base (fun a z => by cases z) e
theorem gl_of {K : PySem.W.Frag} {cl : Nat → Addr} {mg : Str → Option Value} {x : Str} {n : Nat} {v : Value} {u : PV} (h : mg x = some v) (e : valP K n v = some u) : GlobV K cl mg x u := by
  obtain ⟨y, h1, h2⟩ := valP_ok (cl := cl) e
  exact ⟨y, v, h, h1, h2⟩
/-! name op= e -/
def addIP : PV → PV → Option PV
  | .int i, .int j => some (.int (i + j))
  | _, _ => none
def mulIP : PV → PV → Option PV
  | .int i, .int j => if mulOk i j = true then some (.int (i * j)) else none
  | _, _ => none
section
variable {X : Cx} {cl : Nat → Addr}
theorem ov_iadd : OpV X.K cl (rI0 fun i j => .int (i + j)) addIP := by
  intro W σ Hs H x y u v w Q s rx ry e q
  cases rx with
  | int i =>
    cases ry with
    | int j => cases e; exact ⟨_, _, rfl, rfl, q.here s (.int _)⟩
    | _ => cases e
  | _ => cases e
theorem ov_imul : OpV X.K cl (rI CMulS fun i j => .int (i * j)) mulIP := by
  intro W σ Hs H x y u v w Q s rx ry e q
  cases rx with
  | int i =>
    cases ry with
    | int j =>
      replace e : (if mulOk i j = true then some (PV.int (i * j)) else none) = some w := e
      split at e
      · rename_i hk
        cases e
        exact ⟨_, _, rfl, rfl, hk, q.here s (.int _)⟩
      · cases e
    | _ => cases e
  | _ => cases e
end
/-! from a def's text to its promise -/
section
variable {P : Program} {w : World} {K : PySem.W.Frag} {mg : Str → Option Value} {base : Heap} {cl : Nat → Addr} {x : Str} {st : Stmt} {n : Nat} {ps N : List Str}
theorem nun (h : ∃ f fd, Fun K x x st f fd ∧ mg x = some (.ref f)) (hb : ∀ {f : Addr} {fd : FuncData}, Fun K x x st f fd → Binds K fd ps []) : DefAt P w K mg base cl (0 + 2) x n (fun _ => .stuck) := by
  obtain ⟨f, fd, F, hm⟩ := h
  exact ⟨f, fd, ps, def_none, hm, F.kp, hb F⟩
theorem dun {d : Nat} {b : Env → Out} (h : ∃ f fd, Fun K x x st f fd ∧ mg x = some (.ref f)) (S : FnScope N ps (defScope st)) (hb : ∀ {f : Addr} {fd : FuncData}, Fun K x x st f fd → Binds K fd ps [])
    (hbody : ∀ (f : Addr) (cdv : Value) (A : Around) (outer : List PySem.Env) (s : Shared) (H : Hp) (E : XK) (He : Hp), Room (d + 2) (A.deeper (envOfC x (defScope st) s.heap.objs.size f cdv)) →
      PVs (cxOf (L2.CX P w) P w K mg base N x (defScope st) f cdv A outer s H E) cl (fun c d _ H => E c d H) He H (defBody st) b) : DefAt P w K mg base cl (d + 1 + 2) x ps.length (fun us => outR (b (startE N.length us))) := by
  obtain ⟨f, fd, F, hm⟩ := h
  exact ⟨f, fd, ps, def_ok F S fun cdv A outer s H E He hr => hbody f cdv A outer s H E He hr, hm, F.kp, hb F⟩
end
end VL
namespace VL
open PySem PySem.Spec PyProof.Rows L2
/-! ### x.index(y) -/
def idxO (xs : List PV) (y : PV) : Option PV := if flatP y = true ∧ xs.all flatP = true then (xs.findIdx? fun x => eqF x y).map fun (j : Nat) => PV.int ((j : Nat) : Int) else none
def eIdxL (a b : Ex) : Ex := fun ρ => (a ρ).bind fun x => match x with
  | .lst xs => (b ρ).bind fun y => opt (idxO xs y)
  | _ => .stuck
def eIdxT (ys : List Str) (b : Ex) : Ex := fun ρ => (b ρ).bind fun y => match y with
  | .str z => opt ((ys.findIdx? fun x => x == z).map fun (j : Nat) => PV.int ((j : Nat) : Int))
  | _ => .stuck
section
variable {X : Cx} {cl : Nat → Addr} {W : WX} {o e : Expr} {apos cpos : Pos} {f f' : Ex}
theorem ve_idxL (ho : PE X o (tv X.K cl W f)) (ha : PE X e (tv X.K cl W f'))
    (hbase : attributeBase o "index" X.env (eval o X.env) = eval o X.env := by rfl)
    (hfew : ((backTo cpos (starEach [e] X.env)).all (fun x => !x.1) && (backToKw cpos (keywordEach [] X.env)).all (fun x => x.1.isSome)
      && decide ([e].length + ([] : List Keyword).length + (if ([] : List Keyword).isEmpty then 0 else 1) < 30)) = true := by rfl)
    (hline : (apos.endLine == cpos.line) = true := by rfl) (hs : starEach [e] X.env = (false, eval e X.env) :: starEach [] X.env := by rfl) (hplain : (backTo cpos (starEach [] X.env)).any (·.1) = false := by rfl) :
    PE X (.Call (.Attribute o "index" apos) [e] [] cpos) (tv X.K cl W (eIdxL f f')) :=
  peWeak (pe_bm PySem.F.plainAttrs_list PySem.F.slot_list_index PySem.F.type_list_index mt_index ho (va_cons ha va_nil hs) hbase hfew hline hs hplain) fun σ H Q ⟨Hs, ρ, E, h⟩ => by
    refine gv_bind E h fun v x Hs1 H1 _ s1 rx h1 => ?_
    cases rx with
    | @lst a vs xs h ra =>
      refine ⟨.inl ⟨rfl, _, .of (s1.sub _ _ h)⟩, ?_⟩
      refine ⟨Hs1, ρ, E.up s1, ?_⟩
      replace h1 : GP X.K cl (Rp X.K cl) W Hs1 H1 σ ((f' ρ).bind fun y => opt (idxO xs y)) Q := h1
      unfold evs
      cases e1 : f' ρ with
      | ok y =>
        rw [e1] at h1
        intro ws Hs2 H2 s2 rw2
        replace h1 : GP X.K cl (Rp X.K cl) W Hs1 H1 σ (opt (idxO xs y)) Q := h1
        obtain ⟨w, e2, q⟩ := h1.opt
        cases rw2 with
        | cons ry rt =>
          cases rt
          unfold idxO at e2
          split at e2
          · rename_i hk
            rw [Option.map_eq_some_iff] at e2
            obtain ⟨j, e3, rfl⟩ := e2
            rw [List.findIdx?_eq_some_iff_getElem] at e3
            obtain ⟨hj, e4, e5⟩ := e3
            obtain ⟨z, g1, g2⟩ := ra.get (List.getElem?_eq_getElem hj)
            refine ⟨a, vs, _, j, z, rfl, rfl, .of (s2.sub _ _ (s2.fs _ _ h)), ry.flat hk.1, ra.flat hk.2, g1, ?_, fun m z' hm hz' => ?_, (GP.up q s2).here s2.sub (.int _)⟩
            · rw [eqF_ok (g2.mono s2.fs) ry]; exact e4
            · have hm2 : m < xs.length := by omega
              obtain ⟨z2, g3, g4⟩ := ra.get (List.getElem?_eq_getElem hm2)
              rw [g3] at hz'
              cases hz'
              rw [eqF_ok (g4.mono s2.fs) ry]
              simpa using e5 m hm
          · cases e2
      | exc c fs => rw [e1] at h1; exact h1
      | stuck => rw [e1] at h1; exact h1
    | _ => exact h1.elim
/-- what the tuple's rule asks -/
theorem idxT_use {σ : St} {Hs H : Hp} {ρ : Ev} {Q : VK} {p : Addr} {ys : List Str} (E : PEnv X.K cl Hs H σ ρ) (h : GP X.K cl (Rp X.K cl) W Hs H σ (eIdxT ys f' ρ) Q) (hp : ∀ Hs' H', Ext Hs H Hs' H' → SqT X.K H' p (ys.map V.str)) :
    ta X.K cl W (evs [f']) σ H fun xs H2 => (∃ q, ∃ ys : List Str, ∃ z j, V.ref p = .ref q ∧ xs = [.str z] ∧ SqT X.K H2 q (ys.map V.str) ∧ ys[j]? = some z ∧ (∀ m, m < j → ys[m]? ≠ some z) ∧ Q (.int (j : Nat)) H2) := by
  refine ⟨Hs, ρ, E, ?_⟩
  unfold evs
  unfold eIdxT at h
  cases e1 : f' ρ with
  | ok y =>
    rw [e1] at h
    intro ws Hs2 H2 s2 rw2
    cases rw2 with
    | cons ry rt =>
      cases rt
      cases ry with
      | str z =>
        obtain ⟨w, e2, q⟩ := GP.opt h
        rw [Option.map_eq_some_iff] at e2
        obtain ⟨j, e3, rfl⟩ := e2
        rw [List.findIdx?_eq_some_iff_getElem] at e3
        obtain ⟨hj, e4, e5⟩ := e3
        refine ⟨p, ys, z, j, rfl, rfl, hp _ _ s2, ?_, fun m hm hz => ?_, (GP.up q s2).here s2.sub (.int _)⟩
        · rw [List.getElem?_eq_getElem hj, eq_of_beq e4]
        · have hm2 : m < ys.length := by omega
          rw [List.getElem?_eq_getElem hm2] at hz
          have := e5 m hm
          rw [Option.some.inj hz] at this
          simp at this
      | _ => exact h.elim
  | exc c fs => rw [e1] at h; exact h
  | stuck => rw [e1] at h; exact h
/-- a tuple of texts of the module -/
def GlobT (K : PySem.W.Frag) (mg : Str → Option Value) (x : Str) (ys : List Str) : Prop := ∃ p o, mg x = some (.ref p) ∧ K.lookup p = some o ∧ o.cls = .type "tuple" ∧ o.dict = none ∧ ∀ H, SqT K H p (ys.map V.str)
theorem ve_idxG {x : Str} {ys : List Str} {p1 : Pos} (G : GlobT X.K X.mg x ys) (ha : PE X e (tv X.K cl W f')) (hg : Gl X x := by rfl) (hd : (x == ("__debug__" : Str)) = false := by decide)
    (hbase : attributeBase (.Name x p1) "index" X.env (eval (.Name x p1) X.env) = eval (.Name x p1) X.env := by rfl)
    (hfew : ((backTo cpos (starEach [e] X.env)).all (fun x => !x.1) && (backToKw cpos (keywordEach [] X.env)).all (fun x => x.1.isSome)
      && decide ([e].length + ([] : List Keyword).length + (if ([] : List Keyword).isEmpty then 0 else 1) < 30)) = true := by rfl)
    (hline : (apos.endLine == cpos.line) = true := by rfl) (hs : starEach [e] X.env = (false, eval e X.env) :: starEach [] X.env := by rfl) (hplain : (backTo cpos (starEach [] X.env)).any (·.1) = false := by rfl) :
    PE X (.Call (.Attribute (.Name x p1) "index" apos) [e] [] cpos) (tv X.K cl W (eIdxT ys f')) := by
  obtain ⟨p, o, hm, hl, hc, hdd, hT⟩ := G
  refine peWeak (pe_bm PySem.F.plainAttrs_tuple PySem.F.slot_tuple_index PySem.F.type_tuple_index mt_tup_index (pe_glob (v := .ref p) hg hm rfl hd) (va_cons ha va_nil hs) hbase hfew hline hs hplain) fun σ H Q ⟨Hs, ρ, E, h⟩ => ?_
  exact ⟨.inr (.inl ⟨rfl, o, hl, hc, hdd⟩), idxT_use E h fun _ _ _ => hT _⟩
/-- a written tuple of texts -/
theorem evs_strs : ∀ (ys : List Str) (ρ : Ev), evs (ys.map fun z => eC (.str z)) ρ = .ok (ys.map .str)
  | [], _ => rfl
  | y :: ys, ρ => by
    show ((eC (.str y) ρ).bind fun x => (evs (ys.map fun z => eC (.str z)) ρ).bind fun xs => .ok (x :: xs)) = _
    rw [evs_strs ys ρ]
    rfl
theorem rpa_strs {K : PySem.W.Frag} {H : Hp} : ∀ {ys : List Str} {vs : List V}, RpA K cl H vs (ys.map .str) → vs = ys.map V.str
  | [], _, .nil => rfl
  | y :: ys, _, .cons r t => by
    cases r
    rw [rpa_strs t]
    rfl
theorem ve_idxD {es : List Expr} {x1 : Nat} {p1 : Pos} {ys : List Str} (he : PA X es (ta X.K cl W (evs (ys.map fun z => eC (.str z))))) (ha : PE X e (tv X.K cl W f')) (hl : ys.length ≤ sizeLine := by decide)
    (hbase : attributeBase (.Tuple es x1 p1) "index" X.env (eval (.Tuple es x1 p1) X.env) = eval (.Tuple es x1 p1) X.env := by rfl)
    (hfew : ((backTo cpos (starEach [e] X.env)).all (fun x => !x.1) && (backToKw cpos (keywordEach [] X.env)).all (fun x => x.1.isSome)
      && decide ([e].length + ([] : List Keyword).length + (if ([] : List Keyword).isEmpty then 0 else 1) < 30)) = true := by rfl)
    (hline : (apos.endLine == cpos.line) = true := by rfl) (hs : starEach [e] X.env = (false, eval e X.env) :: starEach [] X.env := by rfl) (hplain : (backTo cpos (starEach [] X.env)).any (·.1) = false := by rfl) :
    PE X (.Call (.Attribute (.Tuple es x1 p1) "index" apos) [e] [] cpos) (tv X.K cl W (eIdxT ys f')) := by
  refine ⟨fun pins s σ H Q I ⟨Hs, ρ, E, h⟩ => ?_⟩
  refine wpAny_Call_method_late hbase hfew hline rfl ?_
  refine wpAny_Tuple_spliced (thn (he.run p1 pins s σ H (fun xs H1 => xs = ys.map V.str ∧ ∃ Hs1, Ext Hs H Hs1 H1) I ⟨Hs, ρ, E, ?_⟩) fun us s1 hh => ?_)
  · rw [evs_strs]
    exact fun x Hs' H' s' rx => ⟨rpa_strs rx, Hs', s'⟩
  · obtain ⟨xs, H1, I1, r, e1, Hs1, s1'⟩ := hh
    have z : xs.length ≤ sizeLine := by rw [e1, List.length_map]; exact hl
    refine ⟨by rw [← r.length]; exact z, ?_⟩
    have hf : H1 s1.heap.objs.size = none := I1.hok.fresh (Nat.le_refl _)
    have I2 : Inv X pins σ (upd H1 s1.heap.objs.size (.tup xs)) { s1 with heap := s1.heap.push { cls := .type "tuple", data := .seq us.toArray 0 } } :=
      I1.laid (t' := s1.toks) (fun b u e => Heap.get?_push_of_some _ e) (Nat.le_refl _) ⟨z, us, r, ⟨_, Heap.get?_push_size _ rfl, rfl, _, rfl⟩⟩
    refine ⟨"tuple", _, PySem.F.plainAttrs_tuple, PySem.F.slot_tuple_index, PySem.F.type_tuple_index, ⟨_, Heap.get?_push_size _ rfl, rfl⟩, fun a e => ?_, ?_⟩
    · cases e
      exact ⟨_, Heap.get?_push_size _ rfl, rfl⟩
    · subst e1
      have X2 := s1'.trans (Ext.new (o := .tup (ys.map V.str)) s1'.sub hf)
      have q2 := idxT_use (p := s1.heap.objs.size) (E.up X2) (GP.up h X2) fun Hs' H' t => .of (t.same _ _ upd_same)
      have hA := (va_cons ha va_nil hs).run cpos pins _ σ _ _ I2 q2
      rw [hs] at hA ⊢
      refine Calls.callWith_builtin (by show (false || (backTo cpos (starEach [] X.env)).any (·.1)) = false; rw [hplain] <;> rfl) (Calls.evalArgs_plain ?_)
      exact thn hA fun us2 s2 ⟨vs, H3, I3, r3, q3⟩ => mt_tup_index pins s2 σ H3 (.ref s1.heap.objs.size) vs _ us2 Q I3 rfl r3 q3
end
end VL
namespace VL
open PySem PySem.Spec PyProof.Rows L2
/-! ### what the top has written -/
section
variable {K : PySem.W.Frag} {h : Heap} {mg : Str → Option Value} {x : Str}
theorem fun_at {st : Stmt} {f : Addr} {od an : Option Addr} {osl : Array (Option Value)} {oc kV doc pm cdv ct : Value} (X : K.In h) (G : h.Ns mainGlobals mg) (a : PySem.W.nsIn K mainGlobals x = some (some (.ref f)))
    (l : K.lookup f = some ⟨oc, od, .func (PySem.W.fnOf x x (defArgs st) (defBody st) (defScope st) .none kV doc pm an cdv ct), osl⟩) (c : PySem.W.codeIn K cdv x = true) (k : PySem.W.keepIn K (.ref f) = true) : ∃ f fd, Fun K x x st f fd ∧ mg x = some (.ref f) :=
  ⟨f, _, fun_mk l c k, PySem.W.mg_of X G a⟩
theorem none_at (X : K.In h) (G : h.Ns mainGlobals mg) (a : PySem.W.nsIn K mainGlobals x = some none) : mg x = none := PySem.W.mg_none_of X G a
theorem int_at {cl : Nat → Addr} {i : Int} {t : Tok} (X : K.In h) (G : h.Ns mainGlobals mg) (a : PySem.W.nsIn K mainGlobals x = some (some (.int i t))) : GlobV K cl mg x (.int i) := ⟨.int i, _, PySem.W.mg_of X G a, ⟨_, rfl⟩, fun _ => .int i⟩
theorem str_at {cl : Nat → Addr} {z : Str} {t : Tok} (X : K.In h) (G : h.Ns mainGlobals mg) (a : PySem.W.nsIn K mainGlobals x = some (some (.str z t))) : GlobV K cl mg x (.str z) := ⟨.str z, _, PySem.W.mg_of X G a, ⟨_, rfl⟩, fun _ => .str z⟩
/-! a value that is written out -/
mutual
inductive Wr (K : PySem.W.Frag) : Value → PV → Prop
  | non : Wr K .none .non
  | bl (b : Bool) : Wr K (.bool b) (.bl b)
  | int (i : Int) (t : Tok) : Wr K (.int i t) (.int i)
  | str (z : Str) (t : Tok) : Wr K (.str z t) (.str z)
  | tup {a : Addr} {od : Option Addr} {its : Array Value} {n : Nat} {sl : Array (Option Value)} {vs : List Value} {us : List PV} (l : K.lookup a = some ⟨.type "tuple", od, .seq its n, sl⟩) (e : its.toList = vs) (r : Wrs K vs us) (hl : us.length ≤ sizeLine) : Wr K (.ref a) (.tup us)
inductive Wrs (K : PySem.W.Frag) : List Value → List PV → Prop
  | nil : Wrs K [] []
  | cons {v : Value} {vs : List Value} {u : PV} {us : List PV} : Wr K v u → Wrs K vs us → Wrs K (v :: vs) (u :: us)
end
mutual
theorem Wr.rp {cl : Nat → Addr} : ∀ {v : Value} {u : PV}, Wr K v u → ∃ y : V, RelV y v ∧ ∀ H, Rp K cl H y u
  | _, _, .non => ⟨.non, rfl, fun _ => .non⟩
  | _, _, .bl b => ⟨.bl b, rfl, fun _ => .bl b⟩
  | _, _, .int i t => ⟨.int i, ⟨_, rfl⟩, fun _ => .int i⟩
  | _, _, .str z t => ⟨.str z, ⟨_, rfl⟩, fun _ => .str z⟩
  | _, _, .tup (a := a) (its := its) (n := n) l e r hl => by
    obtain ⟨xs, h1, h2⟩ := Wrs.rp (cl := cl) r
    refine ⟨.ref a, rfl, fun H => .tup (.inr ⟨_, its, n, l, rfl, rfl, ?_, by rw [e]; exact h1⟩) (h2 H)⟩
    rw [← Array.length_toList, e, ← h1.length, (h2 H).length]; exact hl
theorem Wrs.rp {cl : Nat → Addr} : ∀ {vs : List Value} {us : List PV}, Wrs K vs us → ∃ xs : List V, Vals xs vs ∧ ∀ H, RpA K cl H xs us
  | _, _, .nil => ⟨[], .nil, fun _ => .nil⟩
  | _, _, .cons r t => by
    obtain ⟨y, h1, h2⟩ := Wr.rp (cl := cl) r
    obtain ⟨xs, h3, h4⟩ := Wrs.rp (cl := cl) t
    exact ⟨y :: xs, .cons h1 h3, fun H => .cons (h2 H) (h4 H)⟩
end
theorem val_at {cl : Nat → Addr} {v : Value} {u : PV} (X : K.In h) (G : h.Ns mainGlobals mg) (a : PySem.W.nsIn K mainGlobals x = some (some v)) (w : Wr K v u) : GlobV K cl mg x u := by
  obtain ⟨y, h1, h2⟩ := w.rp (cl := cl)
  exact ⟨y, v, PySem.W.mg_of X G a, h1, h2⟩
theorem tupT_at {a : Addr} {its : Array Value} {n : Nat} {sl : Array (Option Value)} {ys : List Str} (X : K.In h) (G : h.Ns mainGlobals mg) (e : PySem.W.nsIn K mainGlobals x = some (some (.ref a))) (l : K.lookup a = some ⟨.type "tuple", none, .seq its n, sl⟩) (r : Wrs K its.toList (ys.map PV.str)) (hl : ys.length ≤ sizeLine) : GlobT K mg x ys := by
  have w : Wr K (.ref a) (.tup (ys.map .str)) := .tup l rfl r (by simpa using hl)
  obtain ⟨y, h1, h2⟩ := w.rp (cl := fun _ => 0)
  cases y with
  | ref b =>
    have h1 : Value.ref a = Value.ref b := h1
    cases h1
    refine ⟨a, _, PySem.W.mg_of X G e, l, rfl, rfl, fun H => ?_⟩
    cases h2 H with
    | tup hs hr => rw [← rpa_strs hr]; exact hs
  | str z => obtain ⟨t, e⟩ := h1; cases e
  | int z => obtain ⟨t, e⟩ := h1; cases e
  | byt z => obtain ⟨t, e⟩ := h1; cases e
  | flt z => obtain ⟨t, e⟩ := h1; cases e
  | non => cases h1
  | bl z => cases h1
  | ty z => cases h1
end
/-! own errors -/
theorem sup_of {K : PySem.W.Frag} {C L N NL : Addr} {nm q nmL qL : Str} {bs bm bsL bmL sub subL : List Value} {sn snL : List Str} {ab abL : Bool} {col colL : Option Bool} {dd ddL : Option Addr} {k0 k1 k2 k3 k5 j0 j1 j2 j3 j5 : Option Value} {z : Option (Option Value)} {n : Str}
    (lC : K.lookup C = some (excClassObj nm q C N bs bm true sn sub ab col dd k0 k1 k2 k3 k5 "ValueError.__new__")) (lL : K.lookup L = some (excClassObj nmL qL L NL bsL bmL true snL subL abL colL ddL j0 j1 j2 j3 j5 "ValueError.__new__")) (e : bm = .ref L :: bmL)
    (f : PySem.W.findIn K (.ref L) n = z) : PySem.W.ks_superIn K C C n = z := by
  have h1 : PySem.W.clsIn K C = some { name := nm, bases := bs, mro := .ref C :: bm, ns := N, qualname := q, hasDict := true, slotNames := sn, subclasses := sub, abstract := ab, collection := col, hasDel := false } := by
    unfold PySem.W.clsIn
    rw [lC] <;> rfl
  unfold PySem.W.ks_superIn
  rw [h1]
  show PySem.W.alongIn K n (((Value.ref C :: bm).dropWhile (· != .ref C)).drop 1) = z
  have e2 : (Value.ref C :: bm).dropWhile (· != .ref C) = .ref C :: bm := by simp [List.dropWhile]
  rw [e2, ← f]
  show PySem.W.alongIn K n bm = _
  show PySem.W.alongIn K n bm = (match K.lookup L with
    | some ⟨_, _, .cls cd, _⟩ => PySem.W.alongIn K n cd.mro
    | _ => none)
  rw [lL, e] <;> rfl
theorem exm_of {K : PySem.W.Frag} {C c : Addr} {b : Bool} (h1 : PySem.W.subIn K (.ref C) (.type "BaseException") = some true) (hd : PySem.W.isClsIn K C = true) (ht : PySem.W.typeIn K (.ref C) = some (.type "type")) (h4 : PySem.W.subIn K (.ref c) (.ref C) = some b) : PySem.W.exmOne K (.ref c) (.ref C) = some b := by
  have e1 : (PySem.W.subIn K (.ref C) (.type "BaseException") == some true) = true := by rw [h1] <;> rfl
  have e2 : ((PySem.W.clsIn K C).isSome && PySem.W.typeIn K (.ref C) == some (.type "type")) = true := by
    have h2' : (PySem.W.clsIn K C).isSome = true := hd
    rw [h2', ht] <;> rfl
  show (if (PySem.W.subIn K (.ref C) (.type "BaseException") == some true) = true then (if ((PySem.W.clsIn K C).isSome && PySem.W.typeIn K (.ref C) == some (.type "type")) = true then PySem.W.subIn K (.ref c) (.ref C) else none) else none) = some b
  rw [if_pos e1, if_pos e2]
  exact h4
/-! the law's own promise -/
def spLaw (K : PySem.W.Frag) : Sp := fun vs H Q _ => ∃ (a : Addr) (ns : List Int), vs = [.ref a] ∧ SqL K H a (ns.map V.int) ∧ ns.length ≤ 63 ∧ (∀ z ∈ ns, Builtin.Int.intBits z ≤ 1048576) ∧ ∀ H', Q (.bl true) H'
theorem law_imp {K : PySem.W.Frag} {cl : Nat → Addr} {g : List PV → R PV} (hg : ∀ ns : List Int, ns.length ≤ 63 → (∀ z ∈ ns, Builtin.Int.intBits z ≤ 1048576) → g [.src (ns.map .int)] = .ok (.bl true)) (vs : List V) (H : Hp) (Q : VK) (E : XK) (h : spLaw K vs H Q E) : spF K cl 1 g vs H Q E := by
  obtain ⟨a, ns, rfl, hs, hl, hb, q⟩ := h
  refine ⟨H, [.src (ns.map .int)], Sub.refl H, .cons (.src hs (rpa_ints ns)) .nil, rfl, ?_⟩
  rw [hg ns hl hb]
  intro x Hs' H' _ rx
  cases rx
  exact q H'
/-! the scope and the facts of an own error's __init__ -/
def exScB (N : List Str) (sc : Scope) : Bool := (match sc.kind with | .function => true | _ => false) && !sc.isCoroutine && !sc.isGenerator && (N.all fun x => kindB (sc.names.lookup x) (some .local)) && (sc.names.all fun y => match y.2 with | .cell => false | _ => true) &&
  (sc.names.all fun y => !freeB y.2 || y.1 == ("__class__" : Str)) && kindB (sc.names.lookup ("__class__" : Str)) (some .free) && kindB (sc.names.lookup ("super" : Str)) (some .globalImplicit)
theorem exSc_of {N : List Str} {sc : Scope} (nd : N.Nodup) (h : exScB N sc = true) : ExScope N sc := by
  unfold exScB at h
  simp only [Bool.and_eq_true, List.all_eq_true, Bool.or_eq_true, Bool.not_eq_true'] at h
  obtain ⟨⟨⟨⟨⟨⟨⟨h1, h2⟩, h3⟩, h4⟩, h5⟩, h6⟩, h7⟩, h8⟩ := h
  refine ⟨?_, h2, h3, nd, fun x hx => kindB_ok (h4 x hx), fun x hx e => ?_, fun x e => ?_, kindB_ok h7, kindB_ok h8⟩
  · revert h1
    cases sc.kind <;> intro h1 <;> first | rfl | cases h1
  · have := h5 x hx
    rw [e] at this
    cases this
  · rcases h6 _ (PySem.mem_of_lookup e) with q | q
    · cases q
    · exact eq_of_beq q
theorem exc_facts {K : PySem.W.Frag} {P : Program} {C fI cc cda N : Addr} {qual nm q ff : Str} {sI : Stmt} {bs bm sub : List Value} {sn : List Str} {ab : Bool} {col : Option Bool} {dd od od2 od3 an : Option Addr} {k0 k1 k2 k3 k5 : Option Value} {oc oc2 oc3 kV doc pm ct : Value} {osl osl2 osl3 : Array (Option Value)} {vs : Array Value} {tf : Tok}
    (lC : K.lookup C = some (excClassObj nm q C N bs bm true sn sub ab col dd k0 k1 k2 k3 k5 "ValueError.__new__")) (hbm : PySem.HandSPX.refsVE bm = true) (sa : PySem.W.findIn K (.ref C) "__setattr__" = some (some (.builtin "object.__setattr__"))) (exC : PySem.W.subIn K (.ref C) (.type "BaseException") = some true)
    (tyC : PySem.W.typeIn K (.ref C) = some (.type "type")) (kC : PySem.W.keepIn K (.ref C) = true) (ini : PySem.W.findIn K (.ref C) "__init__" = some (some (.ref fI))) (tyI : PySem.W.typeIn K (.ref fI) = some (.type "function"))
    (lI : K.lookup fI = some ⟨oc, od, .func (PySem.W.ksFn "__init__" qual (defArgs sI) (defBody sI) (defScope sI) .none kV doc pm an (.ref cda) ct cc), osl⟩) (code : PySem.W.codeIn K (.ref cda) qual = true) (lF : K.lookup cda = some ⟨oc2, od2, .fields vs, osl2⟩) (h2 : vs[2]? = some (.str ff tf)) (hfile : ((P.main.file : Str) == ff) = true)
    (lc : K.lookup cc = some ⟨oc3, od3, .cell (some (.ref C)), osl3⟩) (sup : PySem.W.ks_superIn K C C "__init__" = some (some (.builtin "ValueError.__init__"))) (self : PySem.W.mroIn K C (.ref C) = some true) (ve : PySem.W.subIn K (.ref C) (.type "ValueError") = some true) (noS : PySem.W.nsIn K mainGlobals "super" = some none) (third : PySem.W.nsIn K cStatics "thirdparty.any" = some none) :
    ExC K P C fI cc cda qual sI :=
  ⟨⟨⟨nm, q, N, bs, bm, sn, sub, ab, col, dd, k0, k1, k2, k3, k5, lC, hbm⟩, sa, exC, tyC, kC⟩, ⟨oc, od, kV, doc, pm, an, ct, osl, lI⟩, code, ⟨oc2, od2, vs, osl2, ff, tf, lF, h2, hfile⟩, ⟨oc3, od3, osl3, lc⟩, sup, self, ve, noS, third, ini, tyI⟩
/-- a class of own errors, by its __init__'s promise -/
theorem exc_at {K : PySem.W.Frag} {P : Program} {w : World} {h : Heap} {mg : Str → Option Value} {base : Heap} {cl : Nat → Addr} {C fI cc cda : Addr} {qual x : Str} {sI : Stmt} {k c n : Nat} {sp : Fsp} {ps : List Str} (X : K.In h) (G : h.Ns mainGlobals mg) (a : PySem.W.nsIn K mainGlobals x = some (some (.ref C))) (T : ExC K P C fI cc cda qual sI)
    (F : ∀ {fd : FuncData} {oc : Value} {od : Option Addr} {osl : Array (Option Value)}, K.lookup fI = some ⟨oc, od, .func fd, osl⟩ → FnOk P w K mg base (L2.CX P w) k fI fd ps (spI C n sp))
    (hb : ∀ (kV doc pm : Value) (an : Option Addr) (ct : Value) (us : List Value), us.length = ps.length → bindArgs (PySem.W.ksFn "__init__" qual (defArgs sI) (defBody sI) (defScope sI) .none kV doc pm an (.ref cda) ct cc) ⟨us, []⟩ = pure (ps.zip us)) (hC : C = cl c) : ExcAt P w K mg base cl k x c n sp := by
  obtain ⟨oc, od, kV, doc, pm, an, ct, osl, lI⟩ := T.fn
  exact ⟨C, fI, _, ps, T.base, T.ini, T.tyI, F lI, .all (hb kV doc pm an ct), PySem.W.mg_of X G a, hC⟩
theorem exm_at {K : PySem.W.Frag} {h : Heap} {mg : Str → Option Value} {cl : Nat → Addr} {C : Addr} {x : Str} {mt : Nat → Option Bool} (X : K.In h) (G : h.Ns mainGlobals mg) (a : PySem.W.nsIn K mainGlobals x = some (some (.ref C))) (hx : ∀ k b, mt k = some b → PySem.W.exmOne K (.ref (cl k)) (.ref C) = some b) : ExmAt K mg cl x mt := ⟨C, PySem.W.mg_of X G a, hx⟩
theorem cx_no {P : Program} (w : World) (H : Hp) (s : Shared) (e : Value) (s' : Shared) (h : L2.CX P w [] H s (fun _ _ _ => False) e s') : False := by
  obtain ⟨_, _, _, _, _, _, _, _, _, _, _, _, z⟩ := h
  exact z.elim
/-- a table of plain functions -/
def look : List (Nat × (List PV → R PV)) → Nat → List PV → R PV
  | [], _ => fun _ => .stuck
  | (k, g) :: r, n => if Nat.beq k n = true then g else look r n
end VL
namespace VL
open PySem PySem.Spec PyProof.Rows L2
/-! ### xs[::-1] -/
theorem RpA.reverse {K : PySem.W.Frag} {cl : Nat → Addr} {H : Hp} : ∀ {vs : List V} {xs : List PV}, RpA K cl H vs xs → RpA K cl H vs.reverse xs.reverse
  | _, _, .nil => .nil
  | _, _, .cons r t => by
    rw [List.reverse_cons, List.reverse_cons]
    exact t.reverse.append (.cons r .nil)
def revP : PV → Option PV
  | .lst xs => some (.lst xs.reverse)
  | .src xs => some (.lst xs.reverse)
  | _ => none
theorem ve_rev {X : Cx} {cl : Nat → Addr} {W : WX} {e : Expr} {f : Ex} {k : Nat} {p1 p2 p3 pos : Pos} (he : PE X e (tv X.K cl W f)) : PE X (.Subscript e (.Slice none none (some (.UnaryOp .USub (.Constant (.int 1) k p1) p2)) p3) pos) (tv X.K cl W (e1 revP f)) :=
  peWeak (pe_revL he) fun σ H Q ⟨Hs, ρ, E, h⟩ => by
    refine gv_bind E h fun v x Hs1 H1 _ s1 rx h1 => ?_
    obtain ⟨w, e, q⟩ := h1.opt
    cases rx with
    | lst h ra => cases e; exact ⟨_, _, rfl, .of (s1.sub _ _ h), fun p n => new_lst q s1.sub n ra.reverse⟩
    | src h ra => cases e; exact ⟨_, _, rfl, s1.sub.seqL h, fun p n => new_lst q s1.sub n ra.reverse⟩
    | _ => cases e
end VL
namespace VL
open PySem PySem.Spec PyProof.Rows L2
/-! ### [e for x in xs if .. for y in ys if ..] -/
def lcL2 (t : Tg) (c : Ev → R Bool) (vs1 : List Nat) (t1 : Tg) (it1 : Ev → R (List PV)) (c1 : Ev → R Bool) (e : Ex) (ρ : Ev) : List PV → R (List PV)
  | [] => .ok []
  | v :: vs => match t v with
    | none => .stuck
    | some as => match c (setE as ρ) with
      | .ok true => match it1 (setE as ρ) with
        | .ok ws => match lcL t1 c1 e (wipeE (setE as ρ) vs1) ws with
          | .ok ys => match lcL2 t c vs1 t1 it1 c1 e ρ vs with
            | .ok zs => .ok (ys ++ zs)
            | _ => .stuck
          | _ => .stuck
        | _ => .stuck
      | .ok false => lcL2 t c vs1 t1 it1 c1 e ρ vs
      | _ => .stuck
def eLc2 (own : List Nat) (t : Tg) (it : Ev → R (List PV)) (c : Ev → R Bool) (vs1 : List Nat) (t1 : Tg) (it1 : Ev → R (List PV)) (c1 : Ev → R Bool) (e : Ex) : Ev → R (List PV) := fun ρ => (it ρ).bind fun xs => szO (lcL2 t c vs1 t1 it1 c1 e (wipeE ρ own) xs)
section
variable {X : Cx} {cl : Nat → Addr} {W : WX} {pos : Pos}
theorem PEnv.via {K : PySem.W.Frag} {Hs H Hs1 H1 : Hp} {σ : St} {ρ : Ev} (E : PEnv K cl Hs H σ ρ) (s : Sub Hs Hs1) (s1 : Sub Hs1 H1) : PEnv K cl Hs1 H1 σ ρ :=
  ⟨s1, E.len, fun i v h => let ⟨x, e, r⟩ := E.at_ i v h; ⟨x, e, r.mono s⟩⟩
theorem lc2_use {rel rel1 : Hp → It → List PV → Prop} {it it1 : Ev → R (List PV)} {g g1 : TG} {t t1 : Tg} {c c1 : Ev → R Bool} {e : Ex} {own vs1 : List Nat} (hR : ∀ Hs J xs, rel Hs J xs → Wk X.K cl Hs J xs) (hR1 : ∀ Hs J xs, rel1 Hs J xs → Wk X.K cl Hs J xs) (hG : TgOk X.K cl g t) (hI : TgIn t own) (hG1 : TgOk X.K cl g1 t1) (hI1 : TgIn t1 vs1) {σ : St} {H : Hp} {Q : VK}
    (h : to X.K cl W (eLc2 own t it c vs1 t1 it1 c1 e) σ H Q) : tLc2 (gv X.K cl rel W it) g (tt X.K cl W0 c) (gv X.K cl rel1 W0 it1) g1 (tt X.K cl W0 c1) (tv X.K cl W0 e) own vs1 σ H Q := by
  obtain ⟨Hs, ρ, E, h⟩ := h
  refine go_bind E h fun xs J Hs1 H1 e1 s1 rx h1 => ?_
  have Wj := hR _ _ _ rx
  intro D hD
  have E1 := (E.up s1).wipe own
  cases e2 : lcL2 t c vs1 t1 it1 c1 e (wipeE ρ own) xs with
  | exc c' fs => rw [e2] at h1; exact h1.elim
  | stuck => rw [e2] at h1; exact h1.elim
  | ok ys =>
    rw [e2] at h1
    replace h1 : GO X.K cl W Hs1 H1 σ (if ys.length ≤ sizeLine then .ok ys else .stuck) Q := h1
    split at h1
    · rename_i hsz
      refine ⟨fun i m H2 => ∃ Hs2 acc accP zs, i + m = xs.length ∧ Ext Hs1 H1 Hs2 H2 ∧ Hs2 D = none ∧ H2 D = some (.lst acc) ∧ RpA X.K cl Hs2 acc accP ∧ lcL2 t c vs1 t1 it1 c1 e (wipeE ρ own) (xs.drop i) = .ok zs ∧ accP ++ zs = ys,
        ⟨xs.length, Hs1, [], [], ys, by omega, Ext.newO s1.sub hD, s1.sub.none hD, upd_same, .nil, by simpa using e2, rfl⟩, ?_⟩
      rintro i m H2 ⟨Hs2, acc, accP, zs, em, x2, nD, eD, rA, el, ea⟩
      by_cases hi : i < xs.length
      · refine .inr ⟨Wj.go i H2 Hs2 x2.fs x2.sub hi, fun H3 => ∃ Hs2 acc accP zs, Ext Hs1 H1 Hs2 H3 ∧ Hs2 D = none ∧ H3 D = some (.lst acc) ∧ RpA X.K cl Hs2 acc accP ∧ lcL2 t c vs1 t1 it1 c1 e (wipeE ρ own) (xs.drop (i + 1)) = .ok zs ∧ accP ++ zs = ys,
          fun H3 ⟨Hs3, acc3, accP3, zs3, q⟩ => ⟨m - 1, by omega, Hs3, acc3, accP3, zs3, by omega, q⟩, fun x H3 hy => ?_⟩
        have ev : xs[i]? = some xs[i] := List.getElem?_eq_getElem hi
        obtain ⟨Hs3, x3, rx3⟩ := Wj.yld i x H2 H3 Hs2 xs[i] x2.fs x2.sub ev hy
        rw [List.drop_eq_getElem_cons hi] at el
        unfold lcL2 at el
        cases et : t xs[i] with
        | none => rw [et] at el; cases el
        | some as =>
          rw [et] at el
          have x13 := x2.trans x3
          refine hG Hs3 H3 (wipe σ own) x xs[i] as _ x3.sub rx3 et fun vs rv => ⟨?_, ?_⟩
          · rw [wipe_setV _ _ _ fun p hp => ?_, wipe_wipe]
            obtain ⟨q, h1, h2⟩ := rv.fst p hp
            rw [← h2]
            exact hI _ _ et q h1
          · have E3 : PEnv X.K cl Hs3 H3 (setV vs (wipe σ own)) (setE as (wipeE ρ own)) := (E1.up x13).sets rv
            have nD3 : Hs3 D = none := x3.nw D (by rw [eD]; simp) nD
            have eD3 : H3 D = some (.lst acc) := x3.same _ _ eD
            simp only at el
            generalize setE as (wipeE ρ own) = ρ2 at E3 el
            generalize setV vs (wipe σ own) = σ2 at E3 ⊢
            refine ⟨Hs3, ρ2, E3, ?_⟩
            cases ec : c ρ2 with
            | ok b =>
              simp only [ec] at el
              intro b' Hs4 H4 x4 eb
              subst eb
              have nD4 : Hs4 D = none := x4.nw D (by rw [eD3]; simp) nD3
              have eD4 : H4 D = some (.lst acc) := x4.same _ _ eD3
              have x14 := x13.trans x4
              cases b' with
              | false =>
                simp only at el
                rw [if_neg Bool.false_ne_true]
                exact ⟨Hs4, acc, accP, zs, x14, nD4, eD4, (rA.mono x3.fs).mono x4.fs, el, ea⟩
              | true =>
                simp only at el
                rw [if_pos rfl]
                refine ⟨Hs4, ρ2, E3.up x4, ?_⟩
                cases ei : it1 ρ2 with
                | exc c' fs => simp only [ei] at el; cases el
                | stuck => simp only [ei] at el; cases el
                | ok ws =>
                  simp only [ei] at el
                  intro J1 Hs5 H5 x5 rx5
                  have Wj1 := hR1 _ _ _ rx5
                  have nD5 : Hs5 D = none := x5.nw D (by rw [eD4]; simp) nD4
                  have eD5 : H5 D = some (.lst acc) := x5.same _ _ eD4
                  have x15 := x14.trans x5
                  have E5 : PEnv X.K cl Hs5 H5 σ2 ρ2 := (E3.up x4).up x5
                  have rA5 : RpA X.K cl Hs5 acc accP := ((rA.mono x3.fs).mono x4.fs).mono x5.fs
                  cases eI : lcL t1 c1 e (wipeE ρ2 vs1) ws with
                  | exc c' fs => simp only [eI] at el; cases el
                  | stuck => simp only [eI] at el; cases el
                  | ok us =>
                    simp only [eI] at el
                    cases eR : lcL2 t c vs1 t1 it1 c1 e (wipeE ρ own) (xs.drop (i + 1)) with
                    | exc c' fs => simp only [eR] at el; cases el
                    | stuck => simp only [eR] at el; cases el
                    | ok rest =>
                      simp only [eR] at el
                      cases el
                      refine ⟨fun j k H6 => ∃ Hs6 acc6 accP6 zs6, j + k = ws.length ∧ Ext Hs1 H1 Hs6 H6 ∧ Sub Hs5 Hs6 ∧ Hs6 D = none ∧ H6 D = some (.lst acc6) ∧ RpA X.K cl Hs6 acc6 accP6 ∧ lcL t1 c1 e (wipeE ρ2 vs1) (ws.drop j) = .ok zs6 ∧ accP6 ++ (zs6 ++ rest) = ys,
                        ⟨ws.length, Hs5, acc, accP, us, by omega, x15, Sub.refl _, nD5, eD5, rA5, by simpa using eI, ea⟩, ?_⟩
                      rintro j k H6 ⟨Hs6, acc6, accP6, zs6, ek, x6, f6, nD6, eD6, rA6, el6, ea6⟩
                      by_cases hj : j < ws.length
                      · refine .inr ⟨Wj1.go j H6 Hs6 f6 x6.sub hj, fun H7 => ∃ Hs7 acc7 accP7 zs7, Ext Hs1 H1 Hs7 H7 ∧ Sub Hs5 Hs7 ∧ Hs7 D = none ∧ H7 D = some (.lst acc7) ∧ RpA X.K cl Hs7 acc7 accP7 ∧ lcL t1 c1 e (wipeE ρ2 vs1) (ws.drop (j + 1)) = .ok zs7 ∧ accP7 ++ (zs7 ++ rest) = ys,
                          fun H7 ⟨Hs7, acc7, accP7, zs7, q⟩ => ⟨k - 1, by omega, Hs7, acc7, accP7, zs7, by omega, q⟩, fun x7 H7 hy7 => ?_⟩
                        have ev7 : ws[j]? = some ws[j] := List.getElem?_eq_getElem hj
                        obtain ⟨Hs7, y7, ry7⟩ := Wj1.yld j x7 H6 H7 Hs6 ws[j] f6 x6.sub ev7 hy7
                        rw [List.drop_eq_getElem_cons hj] at el6
                        unfold lcL at el6
                        cases et7 : t1 ws[j] with
                        | none => rw [et7] at el6; cases el6
                        | some as7 =>
                          rw [et7] at el6
                          have x17 := x6.trans y7
                          have f7 : Sub Hs5 Hs7 := f6.trans y7.fs
                          have E7w : PEnv X.K cl Hs7 H7 (wipe σ2 vs1) (wipeE ρ2 vs1) := (E5.via f7 y7.sub).wipe vs1
                          refine hG1 Hs7 H7 (wipe σ2 vs1) x7 ws[j] as7 _ y7.sub ry7 et7 fun vs7 rv7 => ⟨?_, ?_⟩
                          · rw [wipe_setV _ _ _ fun p hp => ?_, wipe_wipe]
                            obtain ⟨q, h1, h2⟩ := rv7.fst p hp
                            rw [← h2]
                            exact hI1 _ _ et7 q h1
                          · have E7 : PEnv X.K cl Hs7 H7 (setV vs7 (wipe σ2 vs1)) (setE as7 (wipeE ρ2 vs1)) := E7w.sets rv7
                            refine ⟨Hs7, _, E7, ?_⟩
                            have nD7 : Hs7 D = none := y7.nw D (by rw [eD6]; simp) nD6
                            have eD7 : H7 D = some (.lst acc6) := y7.same _ _ eD6
                            cases ec7 : c1 (setE as7 (wipeE ρ2 vs1)) with
                            | ok b7 =>
                              simp only [ec7] at el6
                              intro b7' Hs8 H8 x8 eb7
                              subst eb7
                              have nD8 : Hs8 D = none := x8.nw D (by rw [eD7]; simp) nD7
                              have eD8 : H8 D = some (.lst acc6) := x8.same _ _ eD7
                              cases b7' with
                              | true =>
                                simp only at el6
                                rw [if_pos rfl]
                                refine ⟨Hs8, _, E7.up x8, ?_⟩
                                cases ee : e (setE as7 (wipeE ρ2 vs1)) with
                                | ok y =>
                                  simp only [ee] at el6
                                  intro yv Hs9 H9 x9 ry
                                  have nD9 : Hs9 D = none := x9.nw D (by rw [eD8]; simp) nD8
                                  have eD9 : H9 D = some (.lst acc6) := x9.same _ _ eD8
                                  cases er : lcL t1 c1 e (wipeE ρ2 vs1) (ws.drop (j + 1)) with
                                  | ok vs9 =>
                                    simp only [er] at el6
                                    cases el6
                                    have up : Sub Hs6 Hs9 := (y7.fs.trans x8.fs).trans x9.fs
                                    have x19 := (x17.trans x8).trans x9
                                    refine ⟨acc6, eD9, ?_, Hs9, acc6 ++ [yv], accP6 ++ [y], vs9, ?_, f6.trans up, nD9, upd_same, (rA6.mono up).append (.cons ry .nil), rfl, by rw [← ea6]; simp⟩
                                    · rw [rA6.length]
                                      have : ys.length = accP6.length + ((vs9.length + 1) + rest.length) := by rw [← ea6]; simp; omega
                                      omega
                                    · exact ⟨x19.fs, x19.sub.upd nD9, x19.same.upd hD, x19.nw⟩
                                  | exc c' fs => simp only [er] at el6; cases el6
                                  | stuck => simp only [er] at el6; cases el6
                                | exc c' fs => simp only [ee] at el6; cases el6
                                | stuck => simp only [ee] at el6; cases el6
                              | false =>
                                simp only at el6
                                rw [if_neg Bool.false_ne_true]
                                exact ⟨Hs8, acc6, accP6, zs6, x17.trans x8, f7.trans x8.fs, nD8, eD8, (rA6.mono y7.fs).mono x8.fs, el6, ea6⟩
                            | exc c' fs => simp only [ec7] at el6; cases el6
                            | stuck => simp only [ec7] at el6; cases el6
                      · have hz : ws.drop j = [] := List.drop_of_length_le (by omega)
                        rw [hz] at el6
                        cases el6
                        exact .inl ⟨Wj1.stop j H6 Hs6 f6 x6.sub (by omega), Hs6, acc6, accP6, rest, x6, nD6, eD6, rA6, rfl, ea6⟩
            | exc c' fs => simp only [ec] at el; cases el
            | stuck => simp only [ec] at el; cases el
      · have hz : xs.drop i = [] := List.drop_of_length_le (by omega)
        rw [hz] at el
        cases el
        rw [List.append_nil] at ea
        subst ea
        exact .inl ⟨Wj.stop i H2 Hs2 x2.fs x2.sub (by omega), h1 D acc Hs2 H2 x2 eD nD hD rA⟩
    · exact h1.elim
section
variable {rel rel1 : Hp → It → List PV → Prop} {elt tg iter tg1 iter1 : Expr} {ifs ifs1 : List Expr} {scope : Scope} {own : List (Str × Nat)} {vs1 : List Nat} {it it1 : Ev → R (List PV)} {g g1 : TG} {t t1 : Tg} {c c1 : Ev → R Bool} {e : Ex}
theorem vo_lc2 (hc : X.calm = true) (hN : X.N.Nodup) (hi : PI X tg iter (gv X.K cl rel W it)) (hR : ∀ Hs J xs, rel Hs J xs → Wk X.K cl Hs J xs) (hR1 : ∀ Hs J xs, rel1 Hs J xs → Wk X.K cl Hs J xs)
    (ok : BlkOk X.N X.env.scope scope own) (hv : ∀ i ∈ vs1, i ∈ own.map (·.2)) (hG : TgOk X.K cl g t) (hI : TgIn t (own.map (·.2))) (hG1 : TgOk X.K cl g1 t1) (hI1 : TgIn t1 vs1)
    (hg : ∀ (s : Shared) (H : Hp) (C : Addr) (cl' : List (Str × Addr)) (fp : List Addr), PG (X.blk s H scope (compEnvC scope cl' C X.env) fp) tg g)
    (ht : ∀ (s : Shared) (H : Hp) (C : Addr) (cl' : List (Str × Addr)) (fp : List Addr), PTs (X.blk s H scope (compEnvC scope cl' C X.env) fp) ifs (tt X.K cl W0 c))
    (hi1 : ∀ (s : Shared) (H : Hp) (C : Addr) (cl' : List (Str × Addr)) (fp : List Addr), PI (X.blk s H scope (compEnvC scope cl' C X.env) fp) tg1 iter1 (gv X.K cl rel1 W0 it1))
    (hg1 : ∀ (s : Shared) (H : Hp) (C : Addr) (cl' : List (Str × Addr)) (fp : List Addr), PG (X.blk s H scope (compEnvC scope cl' C X.env) fp) tg1 g1)
    (ht1 : ∀ (s : Shared) (H : Hp) (C : Addr) (cl' : List (Str × Addr)) (fp : List Addr), PTs (X.blk s H scope (compEnvC scope cl' C X.env) fp) ifs1 (tt X.K cl W0 c1))
    (he : ∀ (s : Shared) (H : Hp) (C : Addr) (cl' : List (Str × Addr)) (fp : List Addr), PE (X.blk s H scope (compEnvC scope cl' C X.env) fp) elt (tv X.K cl W0 e)) (hs : ∀ x, foldedSetIterable iter X.env x = pure x := by intro _; rfl) (hs1 : ∀ env x, foldedSetIterable iter1 env x = pure x := by intro _ _; rfl) :
    PE X (.ListComp elt [⟨tg, iter, ifs, 0⟩, ⟨tg1, iter1, ifs1, 0⟩] scope pos) (to X.K cl W (eLc2 (own.map (·.2)) t it c vs1 t1 it1 c1 e)) :=
  peWeak (pe_lc2 hc hN hi ok hv hg ht hi1 hg1 ht1 he hs hs1) fun σ H Q h => lc2_use hR hR1 hG hI hG1 hI1 h
end
end
section
variable {X : Cx} {cl : Nat → Addr} {W : WX} {He H0 : Hp} {pos : Pos}
variable {rel rel1 : Hp → It → List PV → Prop} {elt tg iter tg1 iter1 : Expr} {ifs ifs1 : List Expr} {scope : Scope} {own : List (Str × Nat)} {vs1 : List Nat} {it it1 : Ev → R (List PV)} {g g1 : TG} {t t1 : Tg} {c c1 : Ev → R Bool} {e : Ex} {i : Nat} {y : Str} {py p2 : Pos} {bs : List Bool}
theorem vs_ownLc2 (hc : X.calm = true) (hN : X.N.Nodup) (hi : PI X tg iter (gv X.K cl rel W it)) (hR : ∀ Hs J xs, rel Hs J xs → Wk X.K cl Hs J xs) (hR1 : ∀ Hs J xs, rel1 Hs J xs → Wk X.K cl Hs J xs)
    (ok : BlkOk X.N X.env.scope scope own) (hv : ∀ i ∈ vs1, i ∈ own.map (·.2)) (hG : TgOk X.K cl g t) (hI : TgIn t (own.map (·.2))) (hG1 : TgOk X.K cl g1 t1) (hI1 : TgIn t1 vs1)
    (hg : ∀ (s : Shared) (H : Hp) (C : Addr) (cl' : List (Str × Addr)) (fp : List Addr), PG (X.blk s H scope (compEnvC scope cl' C X.env) fp) tg g)
    (ht : ∀ (s : Shared) (H : Hp) (C : Addr) (cl' : List (Str × Addr)) (fp : List Addr), PTs (X.blk s H scope (compEnvC scope cl' C X.env) fp) ifs (tt X.K cl W0 c))
    (hi1 : ∀ (s : Shared) (H : Hp) (C : Addr) (cl' : List (Str × Addr)) (fp : List Addr), PI (X.blk s H scope (compEnvC scope cl' C X.env) fp) tg1 iter1 (gv X.K cl rel1 W0 it1))
    (hg1 : ∀ (s : Shared) (H : Hp) (C : Addr) (cl' : List (Str × Addr)) (fp : List Addr), PG (X.blk s H scope (compEnvC scope cl' C X.env) fp) tg1 g1)
    (ht1 : ∀ (s : Shared) (H : Hp) (C : Addr) (cl' : List (Str × Addr)) (fp : List Addr), PTs (X.blk s H scope (compEnvC scope cl' C X.env) fp) ifs1 (tt X.K cl W0 c1))
    (he : ∀ (s : Shared) (H : Hp) (C : Addr) (cl' : List (Str × Addr)) (fp : List Addr), PE (X.blk s H scope (compEnvC scope cl' C X.env) fp) elt (tv X.K cl W0 e)) (hs : ∀ x, foldedSetIterable iter X.env x = pure x := by intro _; rfl) (hs1 : ∀ env x, foldedSetIterable iter1 env x = pure x := by intro _ _; rfl)
    (hy : X.N[i]? = some y := by rfl) (hyl : X.env.scope.names.lookup y = some .local := by rfl) (hsw : swapsWith (.ListComp elt [⟨tg, iter, ifs, 0⟩, ⟨tg1, iter1, ifs1, 0⟩] scope p2) (some (.Name y py)) pos.line X.env = pure true := by rfl) :
    PV1 X cl W He H0 (.Assign [.Name y py] (.ListComp elt [⟨tg, iter, ifs, 0⟩, ⟨tg1, iter1, ifs1, 0⟩] scope p2) pos) (sOwn i bs (eLc2 (own.map (·.2)) t it c vs1 t1 it1 c1 e)) :=
  psWeak (ps_setLc2 hc hN hy hyl hsw hi ok hv hg ht hi1 hg1 ht1 he hs hs1) fun D σ H ⟨Hs, ρ, S, h⟩ => lc2_use hR hR1 hG hI hG1 hI1 (onO_use S h fun xs a vs Hs1 H1 ρ1 up S1 e1 r n1 n0 new hp => hp _ _ _ (Sub.refl _) (S1.setOwn e1 r n1 n0 new i))
theorem vs_setLc2 (hc : X.calm = true) (hN : X.N.Nodup) (hi : PI X tg iter (gv X.K cl rel W it)) (hR : ∀ Hs J xs, rel Hs J xs → Wk X.K cl Hs J xs) (hR1 : ∀ Hs J xs, rel1 Hs J xs → Wk X.K cl Hs J xs)
    (ok : BlkOk X.N X.env.scope scope own) (hv : ∀ i ∈ vs1, i ∈ own.map (·.2)) (hG : TgOk X.K cl g t) (hI : TgIn t (own.map (·.2))) (hG1 : TgOk X.K cl g1 t1) (hI1 : TgIn t1 vs1)
    (hg : ∀ (s : Shared) (H : Hp) (C : Addr) (cl' : List (Str × Addr)) (fp : List Addr), PG (X.blk s H scope (compEnvC scope cl' C X.env) fp) tg g)
    (ht : ∀ (s : Shared) (H : Hp) (C : Addr) (cl' : List (Str × Addr)) (fp : List Addr), PTs (X.blk s H scope (compEnvC scope cl' C X.env) fp) ifs (tt X.K cl W0 c))
    (hi1 : ∀ (s : Shared) (H : Hp) (C : Addr) (cl' : List (Str × Addr)) (fp : List Addr), PI (X.blk s H scope (compEnvC scope cl' C X.env) fp) tg1 iter1 (gv X.K cl rel1 W0 it1))
    (hg1 : ∀ (s : Shared) (H : Hp) (C : Addr) (cl' : List (Str × Addr)) (fp : List Addr), PG (X.blk s H scope (compEnvC scope cl' C X.env) fp) tg1 g1)
    (ht1 : ∀ (s : Shared) (H : Hp) (C : Addr) (cl' : List (Str × Addr)) (fp : List Addr), PTs (X.blk s H scope (compEnvC scope cl' C X.env) fp) ifs1 (tt X.K cl W0 c1))
    (he : ∀ (s : Shared) (H : Hp) (C : Addr) (cl' : List (Str × Addr)) (fp : List Addr), PE (X.blk s H scope (compEnvC scope cl' C X.env) fp) elt (tv X.K cl W0 e)) (hs : ∀ x, foldedSetIterable iter X.env x = pure x := by intro _; rfl) (hs1 : ∀ env x, foldedSetIterable iter1 env x = pure x := by intro _ _; rfl)
    (hy : X.N[i]? = some y := by rfl) (hyl : X.env.scope.names.lookup y = some .local := by rfl) (hsw : swapsWith (.ListComp elt [⟨tg, iter, ifs, 0⟩, ⟨tg1, iter1, ifs1, 0⟩] scope p2) (some (.Name y py)) pos.line X.env = pure true := by rfl) :
    PV1 X cl W He H0 (.Assign [.Name y py] (.ListComp elt [⟨tg, iter, ifs, 0⟩, ⟨tg1, iter1, ifs1, 0⟩] scope p2) pos) (sSet i bs (asLst (eLc2 (own.map (·.2)) t it c vs1 t1 it1 c1 e))) :=
  psWeak (ps_setLc2 hc hN hy hyl hsw hi ok hv hg ht hi1 hg1 ht1 he hs hs1) fun D σ H ⟨Hs, ρ, S, h⟩ => lc2_use hR hR1 hG hI hG1 hI1 (onO_asLst S h fun v x Hs1 H1 ρ1 up S1 r hp => hp _ _ _ (Sub.refl _) (S1.set r i))
end
/-! run by simp -/
theorem eLc2_S (own t it c vs1 t1 it1 c1 e) (ρ : Ev) : eLc2 own t it c vs1 t1 it1 c1 e ρ = (it ρ).bind fun xs => szO (lcL2 t c vs1 t1 it1 c1 e (wipeE ρ own) xs) := rfl
end VL
namespace VL
open PySem PySem.Spec PyProof.Rows L2
/-! expressions that take from an own list: x.pop() within an expression -/
section
variable {K : PySem.W.Frag} {cl : Nat → Addr} {He H0 : Hp} {Hs Hs1 H H1 : Hp} {σ : St} {ρ : Env}
theorem isOwn_nil {ρ : Env} {σ : St} {a : Addr} : ¬ isOwn [] ρ σ a := fun ⟨i, xs, h, _⟩ => by simp at h
theorem plus_nil : plus (isOwn [] ρ σ) Hs H = Hs := funext fun a => plus_no isOwn_nil
theorem fr_nil : ∀ ρ : Env, fr [] ρ = ρ
  | [] => rfl
  | s :: ρ => by
    have := fr_nil ρ
    cases s <;> simp [fr, this]
theorem SEnv.ext1 (S : SEnv K cl He H0 Hs H σ ρ) (x : Ext Hs H Hs1 H1) : SEnv K cl He H0 Hs1 H1 σ ρ := by
  have := S.froze (bs := []) (Hs1 := Hs1) (H1 := H1) (by rw [plus_nil]; exact x)
  rwa [fr_nil] at this
end
/-- what a text of an expression leaves -/
abbrev Fx := Env → Option (PV × Env)
def tf (K : PySem.W.Frag) (cl : Nat → Addr) (He H0 : Hp) (f : Fx) : TE := fun σ H Q => ∃ Hs ρ, SEnv K cl He H0 Hs H σ ρ ∧ ∃ v ρ', f ρ = some (v, ρ') ∧ ∀ x Hs' H', Sub Hs Hs' → SEnv K cl He H0 Hs' H' σ ρ' → Rp K cl Hs' x v → Q x H'
def fPop (i : Nat) : Fx := fun ρ => (getO ρ i).bind fun xs => (xs[xs.length - 1]?).bind fun v => some (v, ρ.set i (.own xs.dropLast))
def okO : R PV → Option PV
  | .ok v => some v
  | _ => none
def fOp (g : PV → PV → Option PV) (f : Fx) (b : Ex) : Fx := fun ρ => (f ρ).bind fun p => (okO (b (vw [] p.2))).bind fun y => (g p.1 y).bind fun w => some (w, p.2)
def fTup (a : Ex) (f : Fx) : Fx := fun ρ => (okO (a (vw [] ρ))).bind fun u => (f ρ).bind fun p => some (.tup [u, p.1], p.2)
def sSetF (i : Nat) (f : Fx) : Env → Out := fun ρ => match f ρ with
  | some p => .next (p.2.set i (.fz p.1))
  | none => .stuck
def sMetF (i : Nat) (g : List PV → List PV → Option (List PV)) (f : Fx) : Env → Out := fun ρ => match getO ρ i with
  | some _ => match f ρ with
    | some p => match getO p.2 i with
      | some xs => match g xs [p.1] with
        | some ys => .next (p.2.set i (.own ys))
        | none => .stuck
      | none => .stuck
    | none => .stuck
  | none => .stuck
theorem okO_some {r : R PV} {v : PV} (h : okO r = some v) : r = .ok v := by
  cases r with
  | ok w => simp [okO] at h; rw [h]
  | exc _ _ => simp [okO] at h
  | stuck => simp [okO] at h
section
variable {X : Cx} {cl : Nat → Addr} {W : WX} {He H0 : Hp} {bs : List Bool}
variable {pos : Pos} {a b e : Expr} {f : Fx} {g : Ex}
theorem vf_pop {i : Nat} {x : Str} {px apos cpos : Pos} (hi : X.N[i]? = some x := by rfl) (hv : Vis X.env.scope x := by first | exact Or.inl rfl | exact Or.inr (Or.inl rfl) | exact Or.inr (Or.inr rfl)) (hd : (x == ("__debug__" : Str)) = false := by decide) (hcd : (x == ("__classdict__" : Str)) = false := by decide)
    (hbase : attributeBase (.Name x px) "pop" X.env (eval (.Name x px) X.env) = eval (.Name x px) X.env := by rfl) (hline : (apos.endLine == cpos.line) = true := by rfl) :
    PE X (.Call (.Attribute (.Name x px) "pop" apos) [] [] cpos) (tf X.K cl He H0 (fPop i)) :=
  peWeak (pe_bm0 PySem.F.plainAttrs_list PySem.F.slot_list_pop PySem.F.type_list_pop mt_pop (pe_var hi hv hd hcd) hbase hline) fun σ H Q ⟨Hs, ρ, S, v, ρ', e, h⟩ => by
    unfold fPop at e
    cases e0 : getO ρ i with
    | none => rw [e0] at e; cases e
    | some xs =>
      rw [e0] at e
      obtain ⟨a, vs, h1, h2, h3, h4, h5⟩ := S.own i xs (getO_eq e0)
      refine ⟨_, h1, .inl ⟨rfl, vs, .of h2⟩, ?_⟩
      cases e1 : xs[xs.length - 1]? with
      | none => simp [e1] at e
      | some u =>
        simp [e1] at e
        obtain ⟨rfl, rfl⟩ := e
        obtain ⟨y, g1, g2⟩ := h3.get e1
        have dl : RpA X.K cl Hs vs.dropLast xs.dropLast := by
          rw [List.dropLast_eq_take, List.dropLast_eq_take, h3.length]
          exact h3.take _
        have S2 := S.put (getO_eq e0) h1 dl
        exact ⟨a, vs, y, rfl, rfl, h2, by rw [h3.length]; exact g1, h y Hs _ (Sub.refl _) S2 g2⟩
/-- an operation with a plain right side -/
theorem fop_use {r : R2} {og : PV → PV → Option PV} (hg : OpV X.K cl r og) {σ : St} {H : Hp} {Q : VK} (h : tf X.K cl He H0 (fOp og f g) σ H Q) : tOp r (tf X.K cl He H0 f) (tv X.K cl W g) σ H Q := by
  obtain ⟨Hs, ρ, S, v, ρ', e, h⟩ := h
  unfold fOp at e
  cases e0 : f ρ with
  | none => rw [e0] at e; cases e
  | some p =>
    obtain ⟨u, ρ1⟩ := p
    rw [e0] at e
    cases e1 : okO (g (vw [] ρ1)) with
    | none => simp [e1] at e
    | some y =>
      obtain ⟨rfl, e2⟩ : ρ' = ρ1 ∧ og u y = some v := by
        cases e2 : og u y with
        | none => simp [e1, e2] at e
        | some w =>
          simp [e1, e2] at e
          exact ⟨e.2.symm, by rw [e.1]⟩
      refine ⟨Hs, ρ, S, u, ρ', e0, fun x Hs1 H1 up S1 rx => ⟨_, _, S1.pe [], ?_⟩⟩
      rw [okO_some e1]
      intro z Hs2 H2 X2 rz
      rw [plus_nil] at X2
      have S2 := S1.ext1 X2
      exact hg W σ Hs2 H2 x z u y v Q X2.sub (rx.mono X2.fs) rz e2 fun q Hs3 H3 X3 rq => h q Hs3 H3 ((up.trans X2.fs).trans X3.fs) (S2.ext1 X3) rq
theorem vf_bin {op : Operator} {r : R2} {og : PV → PV → Option PV} (ho : OpR X (binaryOp op) r) (hg : OpV X.K cl r og) (ha : PE X a (tf X.K cl He H0 f)) (hb : PE X b (tv X.K cl W g)) : PE X (.BinOp a op b pos) (tf X.K cl He H0 (fOp og f g)) :=
  peWeak (pe_op ho ha hb) fun _ _ _ h => fop_use hg h
theorem ov_ix : OpV X.K cl (rIx X.K) ixP := by
  intro W σ Hs H x y u v w Q s rx ry e q
  cases ry with
  | int i =>
    cases rx with
    | lst h ra => obtain ⟨v, e1, r1⟩ := ra.atI e; exact .inl ⟨_, _, _, v, rfl, rfl, .of (s _ _ h), e1, q.here s r1⟩
    | src h ra => obtain ⟨v, e1, r1⟩ := ra.atI e; exact .inl ⟨_, _, _, v, rfl, rfl, s.seqL h, e1, q.here s r1⟩
    | tup h ra => obtain ⟨v, e1, r1⟩ := ra.atI e; exact .inr (.inl ⟨_, _, _, v, rfl, rfl, s.seqT h, e1, q.here s r1⟩)
    | str z =>
      replace e : (if z.length ≤ sizeLine then (L2.atI z.cps.toList i).map fun c => PV.str ⟨#[c]⟩ else none) = some w := e
      split at e
      · cases e1 : atI z.cps.toList i with
        | none => rw [e1] at e; cases e
        | some c => rw [e1] at e; cases e; exact .inr (.inr ⟨_, _, c, rfl, rfl, by assumption, e1, q.here s (.str _)⟩)
      · cases e
    | _ => cases e
  | _ => cases rx <;> cases e
theorem vf_ix (ha : PE X a (tf X.K cl He H0 f)) (hb : PE X b (tv X.K cl W g)) (hs : PlainIx b := by exact fun _ _ => rfl) : PE X (.Subscript a b pos) (tf X.K cl He H0 (fOp ixP f g)) :=
  peWeak (pe_ix ix_seq ha hb hs) fun _ _ _ h => fop_use ov_ix h
theorem vf_tup {x1} (ha : PE X a (tv X.K cl W g)) (hb : PE X b (tf X.K cl He H0 f)) (h1 : starEach (a :: [b]) X.env = (false, eval a X.env) :: starEach [b] X.env := by rfl) (h2 : starEach (b :: []) X.env = (false, eval b X.env) :: starEach [] X.env := by rfl) :
    PE X (.Tuple [a, b] x1 pos) (tf X.K cl He H0 (fTup g f)) :=
  peWeak (pe_tup (pa_cons ha (pa_cons hb pa_nil h2) h1)) fun σ H Q ⟨Hs, ρ, S, v, ρ', e, h⟩ => by
    unfold fTup at e
    cases e1 : okO (g (vw [] ρ)) with
    | none => simp [e1] at e
    | some u =>
      simp only [e1, Option.bind_some] at e
      cases e0 : f ρ with
      | none => simp [e0] at e
      | some p =>
        obtain ⟨w, ρ1⟩ := p
        simp [e0] at e
        obtain ⟨rfl, rfl⟩ := e
        refine ⟨_, _, S.pe [], ?_⟩
        rw [okO_some e1]
        intro z Hs1 H1 X1 rz
        rw [plus_nil] at X1
        have S1 := S.ext1 X1
        refine ⟨Hs1, ρ, S1, w, ρ1, e0, fun y Hs2 H2 up S2 ry => ⟨by show 2 ≤ sizeLine; rw [sizeLine_eq]; omega, fun p n => ?_⟩⟩
        have X2 := Ext.new (o := .tup [z, y]) S2.sub n
        exact h (.ref p) _ _ ((X1.fs.trans up).trans X2.fs) (S2.ext1 X2) (.tup (.of upd_same) (.cons ((rz.mono up).mono X2.fs) (.cons (ry.mono X2.fs) .nil)))
/-- name = .. x.pop() .. -/
theorem vs_setF {i : Nat} {x : Str} {p' : Pos} (hN : X.N.Nodup) (he : PE X e (tf X.K cl He H0 f)) (hi : X.N[i]? = some x := by rfl) (hx : Loc X.env.scope x := by first | exact Or.inl rfl | exact Or.inr rfl) (hs : swapsWith e (some (.Name x p')) pos.line X.env = pure false := by rfl) (hf : X.fn x = true ∨ X.env.scope.names.lookup x = some .local := by first | exact .inl rfl | exact .inr rfl | assumption) :
    PV1 X cl W He H0 (.Assign [.Name x p'] e pos) (sSetF i f) :=
  psWeak (ps_set hN hi hx he hs hf) fun D σ H ⟨Hs, ρ, S, h⟩ => by
    unfold sSetF at h
    cases e0 : f ρ with
    | none => rw [e0] at h; exact h.elim
    | some p =>
      rw [e0] at h
      exact ⟨Hs, ρ, S, p.1, p.2, e0, fun x Hs1 H1 up S1 r => (Post.up h up) _ _ _ (Sub.refl _) (S1.set r i)⟩
/-- x.append(.. x.pop() ..) -/
theorem vs_metF {i : Nat} {x : Str} {px apos cpos : Pos} {name : Str} {id : String} {r : V → List V → Hp → VK → Prop} {og : List PV → List PV → Option (List PV)} (slot : Slot "list" name id) (hty : typeOf (.builtin id) = pure (.type "method_descriptor")) (hm : MtR X id r) (hg : MetOk X.K cl r og)
    (ha : PE X e (tf X.K cl He H0 f)) (hi : X.N[i]? = some x := by rfl) (hv : Vis X.env.scope x := by first | exact Or.inl rfl | exact Or.inr (Or.inl rfl) | exact Or.inr (Or.inr rfl)) (hd : (x == ("__debug__" : Str)) = false := by decide) (hcd : (x == ("__classdict__" : Str)) = false := by decide)
    (hbase : attributeBase (.Name x px) name X.env (eval (.Name x px) X.env) = eval (.Name x px) X.env := by rfl)
    (hfew : ((backTo cpos (starEach (e :: []) X.env)).all (fun x => !x.1) && (backToKw cpos (keywordEach [] X.env)).all (fun x => x.1.isSome)
      && decide ((e :: ([] : List Expr)).length + ([] : List Keyword).length + (if ([] : List Keyword).isEmpty then 0 else 1) < 30)) = true := by rfl)
    (hline : (apos.endLine == cpos.line) = true := by rfl) (hs : starEach (e :: []) X.env = (false, eval e X.env) :: starEach [] X.env := by rfl) (hplain : (backTo cpos (starEach [] X.env)).any (·.1) = false := by rfl)
    (hsw : swapsWith (.Call (.Attribute (.Name x px) name apos) (e :: []) [] cpos) none pos.line X.env = pure false := by rfl) :
    PV1 X cl W He H0 (.Expr (.Call (.Attribute (.Name x px) name apos) (e :: []) [] cpos) pos) (sMetF i og f) :=
  psWeak (ps_expr (pe_bm PySem.F.plainAttrs_list slot hty hm (pe_var hi hv hd hcd) (pa_cons ha pa_nil hs) hbase hfew hline hs hplain) hsw) fun D σ H ⟨Hs, ρ, S, h⟩ => by
    unfold sMetF at h
    cases e0 : getO ρ i with
    | none => rw [e0] at h; exact h.elim
    | some xs0 =>
      simp only [e0] at h
      obtain ⟨a, vs, h1, h2, _⟩ := S.own i xs0 (getO_eq e0)
      refine ⟨_, h1, .inl ⟨rfl, vs, .of h2⟩, ?_⟩
      cases e1 : f ρ with
      | none => simp only [e1] at h; exact h.elim
      | some p =>
        simp only [e1] at h
        refine ⟨Hs, ρ, S, p.1, p.2, e1, fun z Hs1 H1 up S1 rz => ?_⟩
        cases e2 : getO p.2 i with
        | none => simp only [e2] at h; exact h.elim
        | some xs =>
          simp only [e2] at h
          cases e3 : og xs [p.1] with
          | none => simp only [e3] at h; exact h.elim
          | some ys =>
            simp only [e3] at h
            obtain ⟨b, vs2, g1, g2, g3, g4, g5⟩ := S1.own i xs (getO_eq e2)
            rw [h1] at g1
            cases g1
            exact hg Hs1 H1 a vs2 [z] xs [p.1] ys _ S1.sub g2 g4 g3 (.cons rz .nil) e3 fun zs rz => (Post.up h up) _ _ _ (Sub.refl _) (S1.put (getO_eq e2) h1 rz)
end
end VL
namespace VL
open PySem PySem.Spec PyProof.Rows L2
/-! sets of texts -/
/-- the texts, each once -/
def ded (xs : List Str) : List Str := xs.foldl step_dedup []
theorem ded_snoc (xs : List Str) (x : Str) : ded (xs ++ [x]) = step_dedup (ded xs) x := by
  unfold ded
  rw [List.foldl_append]
  rfl
theorem sd_any (σ : List Str) (v k : Str) : (step_dedup σ v).any (· == k) = (σ.any (· == k) || decide (k = v)) := by
  unfold step_dedup
  by_cases h : σ.any (· == v) = true
  · rw [if_pos h]
    by_cases e : k = v
    · rw [e, h]; rfl
    · rw [decide_eq_false e, Bool.or_false]
  · rw [if_neg h, List.any_append, List.any_cons, List.any_nil, Bool.or_false]
    congr 1
    rw [Bool.eq_iff_iff, beq_iff_eq, decide_eq_true_iff]
    exact eq_comm
theorem sd_len (σ : List Str) (v : Str) : (step_dedup σ v).length = if σ.any (· == v) = true then σ.length else σ.length + 1 := by
  unfold step_dedup
  split
  · rfl
  · rw [List.length_append]; rfl
theorem any_snoc (l : List Str) (x k : Str) : (l ++ [x]).any (· == k) = (l.any (· == k) || decide (k = x)) := by
  rw [List.any_append, List.any_cons, List.any_nil, Bool.or_false]
  congr 1
  rw [Bool.eq_iff_iff, beq_iff_eq, decide_eq_true_iff]
  exact eq_comm
theorem take_snoc {xs : List Str} {i : Nat} (h : i < xs.length) : xs.take (i + 1) = xs.take i ++ [xs.getD i Str.empty] := by
  rw [List.take_succ, List.getElem?_eq_getElem h, List.getD_eq_getElem?_getD, List.getElem?_eq_getElem h]
  rfl
theorem ded_any (k : Str) : ∀ n (xs : List Str), xs.length = n → (ded xs).any (· == k) = xs.any (· == k)
  | 0, xs, h => by
    have : xs = [] := List.eq_nil_of_length_eq_zero h
    subst this; rfl
  | n + 1, xs, h => by
    rcases List.eq_nil_or_concat xs with rfl | ⟨ys, y, rfl⟩
    · rfl
    · rw [List.concat_eq_append] at h ⊢
      have hy : ys.length = n := by simpa using h
      rw [ded_snoc, sd_any, any_snoc, ded_any k n ys hy]
theorem ded_le (xs : List Str) : (ded xs).length ≤ xs.length := by
  have := length_foldl_step_dedup_le (K := Str) xs []
  simpa [ded] using this
section
variable {prog : Program} {w : World} {A : Around} {R : Result → Shared → Prop} {I : Addr} {fp wr : List Addr} {G : Array GenState → Array GenState → Prop} {n : Nat} {P : Nat → Value → Prop} {St : Nat → Shared → Prop}
theorem setLoop (W : WalksS prog w A.in1 I fp wr G n P St) (S : Addr) (hSf : S ∉ fp) (xs : List Str) (hsz : xs.length = n) (hb : n + 1 < scanBound)
    (hval : ∀ i v, P i v → ∃ t, v = .str (xs.getD i Str.empty) t) (k : Nat) : ∀ (i : Nat) (s : Shared), n - i = k → i ≤ n → St i s →
      s.heap.SetOf (PySem.strKind prog w) S (fun k' => (xs.take i).any (· == k')) (ded (xs.take i)).length →
      (∀ s', Moved (S :: wr) G s s' → s'.heap.SetOf (PySem.strKind prog w) S (fun k' => xs.any (· == k')) (ded xs).length → R (.ok (.ret .none)) s') →
      codeAny (model prog w) A (.builtin "set.update.loop" ⟨[.ref S, .ref I], []⟩) R s := by
  have nw : S ∉ wr := fun h => hSf (W.sub _ h)
  have up : ∀ b ∈ wr, b ∈ S :: wr := fun b hb => List.mem_cons_of_mem _ hb
  induction k with
  | zero =>
    intro i s hk hi st hS fin
    obtain rfl : i = n := by omega
    refine codeAny_builtin PyProof.Rows.F.entry_set_update_loop ?_
    rw [Around.under_plainId PyProof.Rows.F.plain_set_update_loop _]
    refine wpAny_bind (m := pyNext (.ref I)) (W.done s _ _ st fun s' hm => ?_)
    refine wpAny_pure (fin s' (hm.mono up) ?_)
    obtain ⟨o, es, ep, t, ho, rest⟩ := hS
    rw [← hsz, List.take_length] at rest
    exact ⟨o, es, ep, t, hm.heap S _ nw ho, rest⟩
  | succ k ih =>
    intro i s hk hi st hS fin
    have lt : i < n := by omega
    refine codeAny_builtin PyProof.Rows.F.entry_set_update_loop ?_
    rw [Around.under_plainId PyProof.Rows.F.plain_set_update_loop _]
    refine wpAny_bind (m := pyNext (.ref I)) (W.item i s _ _ lt st fun v s' hv st' hm => ?_)
    obtain ⟨t, rfl⟩ := hval i v hv
    have hS' : s'.heap.SetOf (PySem.strKind prog w) S (fun k' => (xs.take i).any (· == k')) (ded (xs.take i)).length := by
      obtain ⟨o, es, ep, tb, ho, rest⟩ := hS
      exact ⟨o, es, ep, tb, hm.heap S _ nw ho, rest⟩
    have room : (ded (xs.take i)).length + 1 < scanBound := by
      have h1 := ded_le (xs.take i)
      rw [List.length_take] at h1
      omega
    refine wpAny_bind (m := holding [Value.str (xs.getD i Str.empty) t] (setAdd S (.str (xs.getD i Str.empty) t))) (wpAny_holding ?_)
    unfold setAdd
    refine wpAny_holding (wpAny_bind ((PySem.strKind prog w).pyHash (k := xs.getD i Str.empty) (strKind_is _ _ _ _) ?_))
    refine wpAny_setAddHashed_of (knd := PySem.strKind prog w) (s := { s' with toks := s'.toks + 1 }) (strKind_is _ _ _ _) rfl hS' room fun h' sb new => ?_
    have next : h'.SetOf (PySem.strKind prog w) S (fun k' => (xs.take (i + 1)).any (· == k')) (ded (xs.take (i + 1))).length :=
      SetOf_congr new (fun k' => by rw [take_snoc (by omega : i < xs.length), any_snoc]) (by
        rw [take_snoc (by omega : i < xs.length), ded_snoc, sd_len, ded_any _ _ _ rfl])
    refine wpAny_pure ⟨plainId_quiet PyProof.Rows.F.plain_set_update_loop _, ih (i + 1) _ (by omega) lt (W.frame _ s' _ _ st' (Nat.le_succ _) fun b hb o e => ?_) next fun s2 hm2 hS2 => ?_⟩
    · exact (sb.2 b fun h : b = S => hSf (h ▸ hb)).trans e
    · refine fin s2 (Moved.trans W.gtrans ((hm.mono up).then_heap (Nat.le_succ _) fun b o hb e => ?_) hm2) hS2
      exact (sb.2 b fun h : b = S => hb (h ▸ List.mem_cons_self)).trans e
end
end VL
namespace VL
open PySem PySem.Spec PyProof.Rows L2
section
variable {prog : Program} {w : World} {A : Around} {E : Value → Shared → Prop} {s : Shared}
/-- the new set, before it is filled -/
abbrev set0 (led : Bool) : Obj := { cls := .type "set", dict := none, data := .set #[] 0 (.fresh 0 0 led) }
/-- what set(xs) leaves: a new set; all else stays -/
def SetMade (P : Program) (w : World) (s : Shared) (xs : List Str) (h' : Heap) : Prop :=
  h'.SetOf (PySem.strKind P w) s.heap.objs.size (fun k' => xs.any (· == k')) (ded xs).length ∧ ∀ b o, b < s.heap.objs.size → s.heap.get? b = some o → h'.get? b = some o
/-- what the filling leaves -/
def Filled (P : Program) (w : World) (s : Shared) (xs : List Str) (r : Value) (s2 : Shared) : Prop :=
  r = .none ∧ ∃ h' tk, s2 = { s with heap := h', toks := tk } ∧ SetMade P w s xs h'
theorem fill {l : Addr} {items : Array Value} {xs : List Str} (led : Bool) (hh : A.in1.in1.in1.handled = none) (hl : s.heap.IsList l items) (hi : StrsAre items.toList xs) (hb : xs.length + 1 < scanBound)
    (B : Around) (hB : B = A.in1) :
    codeAny (model prog w) B (.call (.builtin "set.__init__") ⟨[.ref s.heap.objs.size, .ref l], []⟩) (wants (Filled prog w s xs) E) { s with heap := s.heap.push (set0 led) } := by
  subst hB
  have hS : (s.heap.push (set0 led)).get? s.heap.objs.size = some (set0 led) := Heap.get?_push_size _ rfl
  have hT : Shared.TypeIs { s with heap := s.heap.push (set0 led) } (.ref s.heap.objs.size) "set" := ⟨_, hS, rfl⟩
  refine codeAny_call_builtin (R := wants (Filled prog w s xs) E) PySem.F.called_set.init.plain PySem.F.entry_set_init (check_set_init_1 hT ?_)
  obtain ⟨ol, hol, hcl, nl, hdl⟩ := hl
  obtain ⟨ocls, odict, odata, oslots⟩ := ol
  simp only at hcl hdl
  subst hcl; subst hdl
  have hlS : l < s.heap.objs.size := Heap.lt_size hol
  have hol' : (s.heap.push (set0 led)).get? l = some { cls := .type "list", dict := odict, data := .seq items nl, slots := oslots } := Heap.get?_push_of_some _ hol
  have hsls := PySem.F.sub_list_set
  have hslf := PySem.F.sub_list_frozenset
  have hne : (Value.type "list" == Value.type "dict") = false := by decide
  have hl1 : (s.heap.push (set0 led)).IsList l items := ⟨_, hol', rfl, nl, rfl⟩
  unfold Builtin.«set.__init__» noKeywords Builtin.Frozenset.updateFrom
  generalize hPI : pyIter = PI
  wp_walk
  subst hPI
  refine wpAny_pyIter_list hl1 (wpAny_bind (wpAny_runValue ?_))
  have pne : l ≠ (s.heap.push (set0 led)).objs.size := by rw [Heap.size_push]; exact Nat.ne_of_lt (Nat.lt_succ_of_lt hlS)
  have off : s.heap.objs.size ∉ [(s.heap.push (set0 led)).objs.size, l] := by
    rw [Heap.size_push]
    simp only [List.mem_cons, List.mem_singleton, List.not_mem_nil, or_false, not_or]
    exact ⟨Nat.ne_of_lt (Nat.lt_succ_self _), Nat.ne_of_gt hlS⟩
  have hsz : xs.length = items.size := by rw [← StrsAre.len_eq hi, Array.length_toList]
  have hval : ∀ (i : Nat) (v : Value), items[i]? = some v → ∃ t, v = .str (xs.getD i Str.empty) t := fun i v hv => SS.strs_at hi i v (by rw [Array.getElem?_toList]; exact hv)
  refine setLoop ((Walks.list hh _ l pne items).toS) s.heap.objs.size off xs hsz (by omega) hval (items.size - 0) 0 _ rfl (Nat.zero_le _) ⟨⟨_, Heap.get?_push_size _ rfl, rfl, rfl⟩, hl1.push _⟩ ?start ?fin
  case start => exact SetOf_congr ((setObjOf_fresh (knd := PySem.strKind prog w) led).setOf (Heap.get?_push_of_some _ hS) (by unfold scanBound; omega)) (fun _ => rfl) rfl
  case fin =>
    intro s' hm hS'
    obtain ⟨h', g', d', tk', os'⟩ := s'
    obtain rfl : g' = s.gens := hm.gens
    obtain rfl : d' = s.drawn := hm.drawn
    obtain rfl : os' = s.os := hm.os
    refine wpAny_pure ?_
    show wpAny _ _ (ret Value.none) _ _ _
    refine wpAny_pure ⟨rfl, h', tk', rfl, hS', fun b o hb e => ?_⟩
    refine hm.heap b o ?_ (Heap.get?_push_of_some _ (Heap.get?_push_of_some _ e))
    rw [Heap.size_push]
    simp only [List.mem_cons, List.mem_singleton, List.not_mem_nil, or_false, not_or]
    exact ⟨Nat.ne_of_lt hb, Nat.ne_of_lt (Nat.lt_succ_of_lt hb)⟩
theorem call_setS {l : Addr} {items : Array Value} {xs : List Str} {Q : Value → Shared → Prop} (hh : A.handled = none) (hl : s.heap.IsList l items) (hi : StrsAre items.toList xs) (hb : xs.length + 1 < scanBound)
    (h : ∀ h' tk, SetMade prog w s xs h' → Q (.ref s.heap.objs.size) { s with heap := h', toks := tk }) : wpAny (model prog w) A (call (.type "set") [.ref l]) Q E s := by
  obtain ⟨c, tl, hmro⟩ := PySem.F.called_set.mro
  have hmade := PySem.F.called_set.made
  have hsub := PySem.F.called_set.sub
  refine wpAny_call (codeAny_of_tree ?_)
  show wpAny _ _ (callAny (.type "set") _) _ _ _
  refine wpAny_pure ⟨Code.quiet_builtin _ (by decide +kernel), codeAny_builtin PySem.F.entry_type_call ?_⟩
  rw [Around.under_plain (weight_type_call_type "set" [.ref l] []) rfl]
  have h1 := PySem.F.called_set.notType
  have h2 := PySem.F.called_set.canCreate
  have hct := PySem.F.typeCall_set_1 (.ref l)
  repeat (any_goals (first | assumption | wp_step))
  refine codeAny_mono (code_set_new_1 (.ref l) (E := E) (Q₁ := fun obj s₁ => ∃ led : Bool, obj = .ref s.heap.objs.size ∧ s₁ = { s with heap := s.heap.push (set0 led) }) fun led => ⟨led, rfl, rfl⟩) fun r s₁ hr => ?_
  match r, hr with
  | .error e, hr => exact hr
  | .ok (.ret obj), hr =>
    obtain ⟨led, rfl, rfl⟩ := hr
    have hS : (s.heap.push (set0 led)).get? s.heap.objs.size = some (set0 led) := Heap.get?_push_size _ rfl
    have hT : Shared.TypeIs { s with heap := s.heap.push (set0 led) } (.ref s.heap.objs.size) "set" := ⟨_, hS, rfl⟩
    have hli := PySem.F.called_set.init.lookup
    have hbi := PySem.F.called_set.init.bind (.ref s.heap.objs.size)
    repeat (any_goals (first | assumption | wp_step))
    refine codeAny_mono (fill (E := E) (A := A) led (by simp [hh]) hl hi hb _ rfl) fun r₂ s₂ hr₂ => ?_
    match r₂, hr₂ with
    | .error e, hr₂ => exact hr₂
    | .ok (.ret r), hr₂ =>
      obtain ⟨rfl, h', tk, rfl, hS'⟩ := hr₂
      repeat (any_goals (first | assumption | wp_step))
      exact h _ _ hS'
    | .ok .next, hr₂ => exact hr₂.elim
    | .ok .brk, hr₂ => exact hr₂.elim
    | .ok .cont, hr₂ => exact hr₂.elim
  | .ok .next, hr => exact hr.elim
  | .ok .brk, hr => exact hr.elim
  | .ok .cont, hr => exact hr.elim
end
end VL
namespace PySem.F
theorem entry_set_eq : entryFor table "set.__eq__" = some Builtin.«frozenset.__eq__» := entryFor_alias (id' := "frozenset.__eq__") (by kernel_rfl) rfl (by decide +kernel) (by kernel_rfl)
theorem entry_set_ne : entryFor table "set.__ne__" = some Builtin.«frozenset.__ne__» := entryFor_alias (id' := "frozenset.__ne__") (by kernel_rfl) rfl (by decide +kernel) (by kernel_rfl)
end PySem.F
namespace VL
open PySem PySem.Spec PyProof.Rows L2
section
variable {prog : Program} {w : World} {A : Around} {E : Value → Shared → Prop} {s : Shared}
theorem sizeOf_at {a : Addr} {S : Str → Bool} {n : Nat} {Q : Nat → Shared → Prop} (ha : s.heap.SetOf (PySem.strKind prog w) a S n) (h : Q n s) : wpAny (model prog w) A (Builtin.Frozenset.sizeOf a) Q E s := by
  obtain ⟨o, es, ep, t, ho, _, hd, _, _, _, hf, hn⟩ := ha
  unfold Builtin.Frozenset.sizeOf
  exact wpAny_bind (wpAny_setEntries_of ho hd hf (wpAny_pure (by rw [hn]; exact h)))
/-- the body of == of two sets, up to what is wanted of the parts -/
theorem rc_sets {a b : Addr} {S T : Str → Bool} {n m : Nat} {r : Bool} (ha : s.heap.SetOf (PySem.strKind prog w) a S n) (hb : s.heap.SetOf (PySem.strKind prog w) b T m) (hu : A.units < cLine) (Q : Value → Shared → Prop)
    (hsubs : n = m → ∀ (id : String) (B : Around) (Q' : Bool → Shared → Prop) (E' : Value → Shared → Prop) (s' : Shared), s'.heap = s.heap → (∀ s2 : Shared, s2.heap = s.heap → s2.gens = s'.gens → s2.drawn = s'.drawn → s2.os = s'.os → Q' r s2) → wpAny (model prog w) B (Builtin.Frozenset.subsetOf id a b) Q' E' s')
    (h : ∀ s2 : Shared, s2.heap = s.heap → s2.gens = s.gens → s2.drawn = s.drawn → s2.os = s.os → Q (.bool (decide (n = m) && r)) s2) : wpAny (model prog w) A (richCompare .Eq (.ref a) (.ref b)) Q E s := by
  refine wpAny_richCompare_same_room (op := .Eq) ha.typeIs hb.typeIs PySem.F.slot_set_eq (wpAny_call_entry PySem.F.slot_set_eq ha.typeIs PySem.F.entry_set_eq ?_ (PySem.F.args_set_eq_2 _ _)) hu
  show wpAny _ _ (Builtin.Frozenset.slot1 "__eq__" ⟨[.ref a, .ref b], []⟩ >>= _) _ _ s
  refine wpAny_bind ?_
  unfold Builtin.Frozenset.slot1 slotArgs
  simp only [List.isEmpty_nil, Bool.not_true, Bool.false_eq_true, ↓reduceIte, bind_assoc, List.length_nil, bne_self_eq_false]
  have ta := ha.typeIs
  have tb := hb.typeIs
  have hsub := PySem.sub_set_self
  have hsub2 := PySem.F.sub_set_frozenset
  generalize hSO : Builtin.Frozenset.sizeOf = SO
  generalize hSU : Builtin.Frozenset.subsetOf = SU
  wp_walk
  subst hSO
  refine sizeOf_at ha ?_
  refine wpAny_bind (sizeOf_at hb ?_)
  by_cases c : n = m
  · have c' : (n != m) = false := by simpa using c
    simp only [c', Bool.false_eq_true, ↓reduceIte]
    wp_walk
    subst hSU
    refine hsubs c _ _ _ _ s rfl fun s2 e1 e2 e3 e4 => ?_
    have q := h s2 e1 e2 e3 e4
    rw [decide_eq_true c, Bool.true_and] at q
    exact wpAny_pure ⟨_, rfl, (fun z => nomatch z), q⟩
  · have c' : (n != m) = true := by simpa using c
    simp only [c', if_true]
    wp_walk
    have q := h s rfl rfl rfl rfl
    rw [decide_eq_false c] at q
    exact ⟨_, rfl, (fun z => nomatch z), q⟩
/-- the body of != of two sets, up to what is wanted of the parts -/
theorem rc_setsN {a b : Addr} {S T : Str → Bool} {n m : Nat} {r : Bool} (ha : s.heap.SetOf (PySem.strKind prog w) a S n) (hb : s.heap.SetOf (PySem.strKind prog w) b T m) (hu : A.units < cLine) (Q : Value → Shared → Prop)
    (hsubs : n = m → ∀ (id : String) (B : Around) (Q' : Bool → Shared → Prop) (E' : Value → Shared → Prop) (s' : Shared), s'.heap = s.heap → (∀ s2 : Shared, s2.heap = s.heap → s2.gens = s'.gens → s2.drawn = s'.drawn → s2.os = s'.os → Q' r s2) → wpAny (model prog w) B (Builtin.Frozenset.subsetOf id a b) Q' E' s')
    (h : ∀ s2 : Shared, s2.heap = s.heap → s2.gens = s.gens → s2.drawn = s.drawn → s2.os = s.os → Q (.bool (!(decide (n = m) && r))) s2) : wpAny (model prog w) A (richCompare .NotEq (.ref a) (.ref b)) Q E s := by
  refine wpAny_richCompare_same_room (op := .NotEq) ha.typeIs hb.typeIs PySem.F.slot_set_ne (wpAny_call_entry PySem.F.slot_set_ne ha.typeIs PySem.F.entry_set_ne ?_ (PySem.F.args_set_ne_2 _ _)) hu
  show wpAny _ _ (Builtin.Frozenset.slot1 "__ne__" ⟨[.ref a, .ref b], []⟩ >>= _) _ _ s
  refine wpAny_bind ?_
  unfold Builtin.Frozenset.slot1 slotArgs
  simp only [List.isEmpty_nil, Bool.not_true, Bool.false_eq_true, ↓reduceIte, bind_assoc, List.length_nil, bne_self_eq_false]
  have ta := ha.typeIs
  have tb := hb.typeIs
  have hsub := PySem.sub_set_self
  have hsub2 := PySem.F.sub_set_frozenset
  generalize hSO : Builtin.Frozenset.sizeOf = SO
  generalize hSU : Builtin.Frozenset.subsetOf = SU
  wp_walk
  subst hSO
  refine sizeOf_at ha ?_
  refine wpAny_bind (sizeOf_at hb ?_)
  by_cases c : n = m
  · have c' : (n != m) = false := by simpa using c
    simp only [c', Bool.false_eq_true, ↓reduceIte]
    wp_walk
    subst hSU
    refine hsubs c _ _ _ _ s rfl fun s2 e1 e2 e3 e4 => ?_
    have q := h s2 e1 e2 e3 e4
    rw [decide_eq_true c, Bool.true_and] at q
    exact wpAny_pure ⟨_, rfl, (fun z => nomatch z), q⟩
  · have c' : (n != m) = true := by simpa using c
    simp only [c', if_true]
    wp_walk
    have q := h s rfl rfl rfl rfl
    rw [decide_eq_false c] at q
    exact ⟨_, rfl, (fun z => nomatch z), q⟩
theorem subset_at {a b : Addr} {S T : Str → Bool} {n m : Nat} {id : String} (ha : s.heap.SetOf (PySem.strKind prog w) a S n) (hb : s.heap.SetOf (PySem.strKind prog w) b T m) (hnm : n ≤ m) (Q : Bool → Shared → Prop)
    (h : ∀ (r : Bool) (s2 : Shared), (r = true ↔ ∀ k, S k = true → T k = true) → s2.heap = s.heap → s2.gens = s.gens → s2.drawn = s.drawn → s2.os = s.os → Q r s2) : wpAny (model prog w) A (Builtin.Frozenset.subsetOf id a b) Q E s := by
  unfold Builtin.Frozenset.subsetOf
  refine wpAny_bind (sizeOf_at ha ?_)
  refine wpAny_bind (sizeOf_at hb ?_)
  have c : ¬ n > m := by omega
  simp only [c, ↓reduceIte]
  obtain ⟨oa, ea, epa, ta, hoa, hxa, hda, hea, hma, hba, hfa, hna⟩ := ha
  refine wpAny_bind (wpAny_setEpoch_of hoa hda hfa ?_)
  unfold Builtin.Frozenset.walkUnseen
  have hb2 := hb
  obtain ⟨ob, eb, epb, tb, hob, hxb, hdb, heb, hmb, hbb, hfb, hnb⟩ := hb2
  have hstr : ∀ e ∈ ea.toList ++ eb.toList, ∃ k t, e.2 = Value.str k t := fun e he => by
    rcases List.mem_append.mp he with he | he
    · obtain ⟨⟨k, hk, _⟩, _⟩ := hea e he
      obtain ⟨t, ht⟩ := Value.isStrOf_shape hk
      exact ⟨k, t, ht⟩
    · obtain ⟨⟨k, hk, _⟩, _⟩ := heb e he
      obtain ⟨t, ht⟩ := Value.isStrOf_shape hk
      exact ⟨k, t, ht⟩
  refine wpAny_bind (wpAny_bind (wpAny_setEntries_of hoa hda hfa (wpAny_bind (wpAny_setEntries_of hob hdb hfb ?_))))
  refine wpAny_bind (wpAny_forIn_list _ (fun (l : List (Int × Value)) b s' => b = (none, ()) ∧ s' = s ∧ ∀ e ∈ l, ∃ k t, e.2 = Value.str k t) _ (fun x rest b s' ⟨e1, e2, hl⟩ => ?_) (fun b s' ⟨e1, e2, _⟩ => ?_) _ _ ⟨rfl, rfl, hstr⟩)
  · subst e1; subst e2
    obtain ⟨hh, v⟩ := x
    obtain ⟨k, t, e⟩ := hl _ List.mem_cons_self
    simp only at e
    subst e
    refine wpAny_bind (m := Builtin.Frozenset.quietEq (Value.str k t)) (wpAny_pure ?_)
    simp only [Bool.not_true, Bool.false_eq_true, ↓reduceIte]
    exact wpAny_pure ⟨rfl, rfl, fun e he => hl e (List.mem_cons_of_mem _ he)⟩
  · subst e1; subst e2
    refine wpAny_pure ?_
    refine wpAny_bind (wpAny_forIn_list _ (fun (l : List (Int × Value)) b s2 => b = (none, ()) ∧ s2 = s' ∧ (∀ e ∈ l, e ∈ ea.toList) ∧ ∀ k, S k = true → T k = true ∨ ∃ e ∈ l, (PySem.strKind prog w).is k e.2 = true) _ (fun x rest b s2 ⟨e1, e2, hl, hp⟩ => ?_) (fun b s2 ⟨e1, e2, _, hp⟩ => ?_) _ _ ⟨rfl, rfl, fun e he => he, fun k hk => .inr ((hma k).mp hk)⟩)
    · subst e1; subst e2
      obtain ⟨hh, v⟩ := x
      obtain ⟨⟨k, hk, hhash⟩, hsc⟩ := hea _ (hl _ List.mem_cons_self)
      simp only at hk hhash hsc
      subst hhash
      refine wpAny_bind (wpAny_holding (wpAny_setFind_of (knd := PySem.strKind prog w) hk hsc hb fun r hr => ?_))
      cases hT : T k with
      | false =>
        rw [hT] at hr
        have : r.isNone = true := by cases r <;> simp_all
        simp only [this, ↓reduceIte]
        refine wpAny_pure ?_
        refine wpAny_pure (h false _ ?_ rfl rfl rfl rfl)
        refine ⟨fun z => (nomatch z), fun z => ?_⟩
        have := z k ((hma k).mpr ⟨_, hl _ List.mem_cons_self, hk⟩)
        rw [hT] at this
        exact this
      | true =>
        rw [hT] at hr
        have : r.isNone = false := by cases r <;> simp_all
        simp only [this, Bool.false_eq_true, ↓reduceIte]
        unfold Builtin.Frozenset.unchanged
        refine wpAny_bind (wpAny_bind (wpAny_setEpoch_of hoa hda hfa ?_))
        simp only [bne_self_eq_false, Bool.false_eq_true, ↓reduceIte]
        refine wpAny_pure (wpAny_pure ⟨rfl, rfl, fun e he => hl e (List.mem_cons_of_mem _ he), fun k' hk' => ?_⟩)
        rcases hp k' hk' with h1 | ⟨e, he, hke⟩
        · exact .inl h1
        · rcases List.mem_cons.mp he with h2 | h2
          · left
            subst h2
            have := (PySem.strKind prog w).inj _ _ _ hk hke
            rw [← this]; exact hT
          · exact .inr ⟨e, h2, hke⟩
    · subst e1; subst e2
      refine wpAny_pure (h true _ ⟨fun _ k hk => ?_, fun _ => rfl⟩ rfl rfl rfl rfl)
      rcases hp k hk with h1 | ⟨e, he, _⟩
      · exact h1
      · cases he
end
end VL
namespace VL
open PySem PySem.Spec PyProof.Rows L2
/-- the texts of a list of texts -/
def strsP : List PV → Option (List Str)
  | [] => some []
  | .str z :: r => (strsP r).map (z :: ·)
  | _ => none
theorem strsP_map (zs : List Str) : strsP (zs.map .str) = some zs := by
  induction zs with
  | nil => rfl
  | cons z zs ih => simp [strsP, ih]
theorem RpA.texts {K : PySem.W.Frag} {cl : Nat → Addr} {H : Hp} : ∀ {vs : List V} {xs : List PV} {zs : List Str}, RpA K cl H vs xs → strsP xs = some zs → vs = zs.map V.str
  | [], _, zs, .nil, e => by cases e; rfl
  | _ :: _, _, zs, .cons r t, e => by
    cases r with
    | str z =>
      replace e : (strsP _).map (z :: ·) = some _ := e
      cases e1 : strsP _ with
      | none => rw [e1] at e; cases e
      | some ys =>
        rw [e1] at e
        cases e
        rw [List.map_cons, RpA.texts t e1]
    | _ => cases e
def setOk (zs : List Str) : Bool := decide (zs.length + 1 < scanBound)
/-- len(set(xs)) -/
def lenSetP : PV → Option PV
  | .lst xs => (strsP xs).bind fun zs => if setOk zs = true then some (.int ((ded zs).length : Int)) else none
  | _ => none
def setEq (xs ys : List Str) : Bool := decide ((ded xs).length = (ded ys).length ∧ ∀ k ∈ xs, k ∈ ys)
def setCmp (f : Bool → Bool) : PV → PV → Option PV
  | .lst xs, .lst ys => (strsP xs).bind fun zs => (strsP ys).bind fun ws => if setOk zs = true ∧ setOk ws = true then some (.bl (f (setEq zs ws))) else none
  | _, _ => none
/-- a set of texts at a -/
def SetS (P : Program) (w : World) (a : Addr) (xs : List Str) : HO := .ext fun h => h.SetOf (PySem.strKind P w) a (fun k => xs.any (· == k)) (ded xs).length
section
variable {X : Cx}
theorem setS_at {P : Program} {w : World} {h h' : Heap} {a : Addr} {S : Str → Bool} {n : Nat} (R : h.SetOf (PySem.strKind P w) a S n) (k : ∀ o, h.get? a = some o → h'.get? a = some o) : h'.SetOf (PySem.strKind P w) a S n := by
  obtain ⟨o, es, ep, t, ho, rest⟩ := R
  exact ⟨o, es, ep, t, k o ho, rest⟩
theorem setS_new {P : Program} {w : World} {H : Hp} {h : Heap} {a : Addr} {xs : List Str} (R : h.SetOf (PySem.strKind P w) a (fun k => xs.any (· == k)) (ded xs).length) : ObjOk P w H h a (SetS P w a xs) := by
  have ⟨o, _, _, _, ho, _⟩ := R
  exact ⟨R, ⟨o, ho⟩, fun h1 h2 p k => setS_at p k⟩
theorem setS_get {pins : List (Addr × Obj)} {σ : St} {H : Hp} {s : Shared} {a : Addr} {xs : List Str} (I : Inv X pins σ H s) (ha : H a = some (SetS X.prog X.w a xs)) : s.heap.SetOf (PySem.strKind X.prog X.w) a (fun k => xs.any (· == k)) (ded xs).length := (I.hok a _ ha).1
def rSetS (K : PySem.W.Frag) (P : Program) (w : World) : List V → Hp → VK → Prop := fun vs H Q => ∃ (l : Addr) (zs : List Str), vs = [V.ref l] ∧ SqL K H l (zs.map V.str) ∧ setOk zs = true ∧ ∀ a, H a = none → Q (.ref a) (upd H a (SetS P w a zs))
theorem cr_setS (hc : X.calm = true) : CallR X (.type "set") (rSetS X.K X.prog X.w) := by
  intro pins s σ H xs us Q I r h
  obtain ⟨l, zs, rfl, hl, hk, q⟩ := h
  rw [Vals.ref1 r]
  obtain ⟨its, rv, pl, hz⟩ := I.list hl
  have hn : H s.heap.objs.size = none := I.hok.fresh (Nat.le_refl _)
  refine call_setS (I.ok.hd hc) pl.isList (by simpa using strsAre_of rv) (of_decide_eq_true hk) fun h' tk m => ?_
  exact ⟨.ref s.heap.objs.size, upd H s.heap.objs.size (SetS X.prog X.w s.heap.objs.size zs), I.laid (t' := tk) (fun b u e => m.2 b u (Heap.lt_size e) e) (Nat.le_refl _) (setS_new m.1), rfl, q _ hn⟩
def rLenS (P : Program) (w : World) : List V → Hp → VK → Prop := fun vs H Q => ∃ (a : Addr) (zs : List Str), vs = [V.ref a] ∧ H a = some (SetS P w a zs) ∧ Q (.int ((ded zs).length : Int)) H
theorem cr_lenS : CallR X (.builtin "len") (rLenS X.prog X.w) := by
  intro pins s σ H xs us Q I r h
  obtain ⟨a, zs, rfl, ha, q⟩ := h
  rw [Vals.ref1 r]
  obtain ⟨o, es, ep, t, ho, hex, hd, _, _, hb, hf, hn⟩ := setS_get I ha
  have : es.size < 4096 := hb
  exact call_len_set ho hex hd hf (by omega) ⟨.int ((ded zs).length : Int), H, I.tok _, ⟨_, by rw [hn]⟩, q⟩
def subB (xs ys : List Str) : Bool := xs.all fun k => ys.any (· == k)
theorem subB_iff {xs ys : List Str} : subB xs ys = true ↔ ∀ k, xs.any (· == k) = true → ys.any (· == k) = true := by
  unfold subB
  simp
theorem setEq_of (xs ys : List Str) : (decide ((ded xs).length = (ded ys).length) && subB xs ys) = setEq xs ys := by
  unfold setEq
  rw [Bool.eq_iff_iff, Bool.and_eq_true, decide_eq_true_iff, decide_eq_true_iff, subB_iff]
  simp
theorem same_but {s s2 : Shared} (e1 : s2.heap = s.heap) (e2 : s2.gens = s.gens) (e3 : s2.drawn = s.drawn) (e4 : s2.os = s.os) : s2 = { s with toks := s2.toks } := by
  cases s2
  cases s
  simp only at e1 e2 e3 e4
  subst e1; subst e2; subst e3; subst e4
  rfl
def rEqS (P : Program) (w : World) (f : Bool → Bool) : R2 := fun x y H Q => ∃ (a b : Addr) (xs ys : List Str), x = .ref a ∧ y = .ref b ∧ H a = some (SetS P w a xs) ∧ H b = some (SetS P w b ys) ∧ Q (.bl (f (setEq xs ys))) H
theorem or_eqS (hu : X.A.units < cLine) : OpR X (compareOp .Eq) (rEqS X.prog X.w id) := by
  intro pins s σ H x y v u Q I rx ry h
  obtain ⟨a, b, xs, ys, rfl, rfl, ha, hb, q⟩ := h
  cases rx
  cases ry
  have A := setS_get I ha
  have B := setS_get I hb
  show wpAny _ _ (richCompare .Eq (.ref a) (.ref b)) _ _ _
  refine rc_sets (r := subB xs ys) A B hu _ (fun hnm id B' Q' E' s' hs' hq => ?_) fun s2 e1 e2 e3 e4 => ?_
  · rw [← hs'] at A B
    refine subset_at A B (by omega) Q' fun r s2 hr f1 f2 f3 f4 => ?_
    have : r = subB xs ys := by rw [Bool.eq_iff_iff, hr, subB_iff]
    rw [this]
    exact hq s2 (f1.trans hs') f2 f3 f4
  · rw [same_but e1 e2 e3 e4, setEq_of]
    exact ⟨.bl _, H, I.tok _, rfl, q⟩
theorem or_neS (hu : X.A.units < cLine) : OpR X (compareOp .NotEq) (rEqS X.prog X.w not) := by
  intro pins s σ H x y v u Q I rx ry h
  obtain ⟨a, b, xs, ys, rfl, rfl, ha, hb, q⟩ := h
  cases rx
  cases ry
  have A := setS_get I ha
  have B := setS_get I hb
  show wpAny _ _ (richCompare .NotEq (.ref a) (.ref b)) _ _ _
  refine rc_setsN (r := subB xs ys) A B hu _ (fun hnm id B' Q' E' s' hs' hq => ?_) fun s2 e1 e2 e3 e4 => ?_
  · rw [← hs'] at A B
    refine subset_at A B (by omega) Q' fun r s2 hr f1 f2 f3 f4 => ?_
    have : r = subB xs ys := by rw [Bool.eq_iff_iff, hr, subB_iff]
    rw [this]
    exact hq s2 (f1.trans hs') f2 f3 f4
  · rw [same_but e1 e2 e3 e4, setEq_of]
    exact ⟨.bl _, H, I.tok _, rfl, q⟩
end
section
variable {X : Cx} {cl : Nat → Addr} {W : WX} {a b : Expr} {f g : Ex} {p p2 p3 q q2 pos : Pos}
/-- set(a) of a list of texts, as it stands -/
theorem mk_set {Q : VK} {σ : St} {H : Hp} {h : PV → R PV} {Q0 : VK} {Hs : Hp} {ρ : Ev} (E : PEnv X.K cl Hs H σ ρ) (hg : GP X.K cl (Rp X.K cl) W Hs H σ ((f ρ).bind h) Q0)
    (k : ∀ xs zs p Hs1 H1, f ρ = .ok (.lst xs) → strsP xs = some zs → setOk zs = true → Ext Hs H Hs1 H1 → H1 p = some (SetS X.prog X.w p zs) → GP X.K cl (Rp X.K cl) W Hs1 H1 σ (h (.lst xs)) Q0 → Q (.ref p) H1)
    (ok : ∀ v, f ρ = .ok v → h v ≠ .stuck → (∃ xs zs, v = .lst xs ∧ strsP xs = some zs ∧ setOk zs = true)) : tCB (rSetS X.K X.prog X.w) (tCons (tv X.K cl W f) tNil) σ H Q := by
  refine gv_bind E hg fun v x Hs1 H1 ev X1 rx h1 => ?_
  have hns : h v ≠ .stuck := fun z => by rw [z] at h1; exact h1
  obtain ⟨xs, zs, rfl, hz, hk⟩ := ok v ev hns
  show rSetS X.K X.prog X.w [x] H1 Q
  cases rx with
  | lst hl ra =>
    refine ⟨_, zs, rfl, ?_, hk, fun p n => ?_⟩
    · rw [← ra.texts hz]; exact .of (X1.sub _ _ hl)
    · have X2 := Ext.newO (o := SetS X.prog X.w p zs) X1.sub n
      exact k xs zs p _ _ ev hz hk (X1.trans X2) upd_same (h1.up X2)
theorem ve_lenSet (hc : X.calm = true) (hm : X.mg "len" = none) (hm2 : X.mg "set" = none) (ha : PE X a (tv X.K cl W f))
    (hg : Gl X "len" := by rfl) (hg2 : Gl X "set" := by rfl) (he : starEach [a] X.env = (false, eval a X.env) :: starEach [] X.env := by rfl) (he2 : starEach [.Call (.Name "set" p2) [a] [] q] X.env = (false, eval (.Call (.Name "set" p2) [a] [] q) X.env) :: starEach [] X.env := by rfl)
    (hpl : (backTo q (starEach [] X.env)).any (·.1) = false := by rfl) (hpl2 : (backTo pos (starEach [] X.env)).any (·.1) = false := by rfl) :
    PE X (.Call (.Name "len" p) [.Call (.Name "set" p2) [a] [] q] [] pos) (tv X.K cl W (fun ρ => (f ρ).bind fun x => opt (lenSetP x))) :=
  peWeak (pe_callB cr_lenS hg hm boot_len (pa_cons (pe_callTy (cr_setS hc) hg2 hm2 boot_set (pa_cons ha pa_nil he) (he := he) (hpl := hpl)) pa_nil he2) (he := he2) (hpl := hpl2)) fun σ H Q ⟨Hs, ρ, E, h⟩ => by
    refine mk_set E h (fun xs zs p Hs1 H1 ev hz hk X1 hp h1 => ?_) fun v ev hn => ?_
    · refine ⟨p, zs, rfl, hp, ?_⟩
      have e : lenSetP (.lst xs) = some (.int ((ded zs).length : Int)) := by
        show ((strsP xs).bind fun zs => if setOk zs = true then some (PV.int ((ded zs).length : Int)) else none) = _
        rw [hz]
        exact if_pos hk
      rw [e] at h1
      exact h1.here X1.sub (.int _)
    · cases v with
      | lst xs =>
        have hn : opt ((strsP xs).bind fun zs => if setOk zs = true then some (PV.int ((ded zs).length : Int)) else none) ≠ .stuck := hn
        cases e : strsP xs with
        | none => rw [e] at hn; exact absurd rfl hn
        | some zs =>
          rw [e] at hn
          by_cases c : setOk zs = true
          · exact ⟨xs, zs, rfl, e, c⟩
          · refine absurd ?_ hn
            show opt (if setOk zs = true then some (PV.int ((ded zs).length : Int)) else none) = R.stuck
            rw [if_neg c]
            rfl
      | _ => exact absurd rfl hn
end
end VL
namespace VL
open PySem PySem.Spec PyProof.Rows L2
/-- the texts that a set is made of -/
def txtsV : PV → Option (List Str)
  | .lst xs => (strsP xs).bind fun zs => if setOk zs = true then some zs else none
  | _ => none
theorem txtsV_ok {v : PV} {zs : List Str} (h : txtsV v = some zs) : ∃ xs, v = .lst xs ∧ strsP xs = some zs ∧ setOk zs = true := by
  cases v with
  | lst xs =>
    replace h : ((strsP xs).bind fun zs => if setOk zs = true then some zs else none) = some zs := h
    cases e : strsP xs with
    | none => rw [e] at h; cases h
    | some ys =>
      rw [e] at h
      replace h : (if setOk ys = true then some ys else none) = some zs := h
      split at h
      · rename_i c
        cases h
        exact ⟨xs, rfl, e, c⟩
      · cases h
  | _ => cases h
def eSetCmp (F : Bool → Bool) (f g : Ex) : Ex := fun ρ => (f ρ).bind fun x => (opt (txtsV x)).bind fun zs => (g ρ).bind fun y => (opt (txtsV y)).bind fun ws => .ok (.bl (F (setEq zs ws)))
section
variable {X : Cx} {cl : Nat → Addr} {W : WX} {a b : Expr} {f g : Ex} {p p2 p3 q q2 pos : Pos}
theorem mk_set2 {α' β' : Type} {rel' : Hp → β' → α' → Prop} {Q : VK} {σ : St} {H : Hp} {h : List Str → R α'} {Q0 : β' → Hp → Prop} {Hs : Hp} {ρ : Ev} (E : PEnv X.K cl Hs H σ ρ) (hg : GP X.K cl rel' W Hs H σ ((f ρ).bind fun x => (opt (txtsV x)).bind h) Q0)
    (k : ∀ zs p Hs1 H1, Ext Hs H Hs1 H1 → H1 p = some (SetS X.prog X.w p zs) → GP X.K cl rel' W Hs1 H1 σ (h zs) Q0 → Q (.ref p) H1) : tCB (rSetS X.K X.prog X.w) (tCons (tv X.K cl W f) tNil) σ H Q := by
  refine gv_bind E hg fun v x Hs1 H1 ev X1 rx h1 => ?_
  cases e : txtsV v with
  | none => rw [e] at h1; exact h1.elim
  | some zs =>
    rw [e] at h1
    obtain ⟨xs, rfl, hz, hk⟩ := txtsV_ok e
    show rSetS X.K X.prog X.w [x] H1 Q
    cases rx with
    | lst hl ra =>
      refine ⟨_, zs, rfl, ?_, hk, fun p n => ?_⟩
      · rw [← ra.texts hz]; exact .of (X1.sub _ _ hl)
      · have X2 := Ext.newO (o := SetS X.prog X.w p zs) X1.sub n
        exact k zs p _ _ (X1.trans X2) upd_same (GP.up (r := h zs) h1 X2)
theorem ve_setCmp {op : CmpOp} {F : Bool → Bool} (ho : OpR X (compareOp op) (rEqS X.prog X.w F)) (hc : X.calm = true) (hm2 : X.mg "set" = none) (ha : PE X a (tv X.K cl W f)) (hb : PE X b (tv X.K cl W g))
    (hg2 : Gl X "set" := by rfl) (hea : starEach [a] X.env = (false, eval a X.env) :: starEach [] X.env := by rfl) (heb : starEach [b] X.env = (false, eval b X.env) :: starEach [] X.env := by rfl)
    (hpl : (backTo q (starEach [] X.env)).any (·.1) = false := by rfl) (hpl2 : (backTo q2 (starEach [] X.env)).any (·.1) = false := by rfl) (hmk : behindInMarks op (.Call (.Name "set" p3) [b] [] q2) = false := by first | exact nomark _ | rfl) :
    PE X (.Compare (.Call (.Name "set" p2) [a] [] q) [op] [.Call (.Name "set" p3) [b] [] q2] pos) (tv X.K cl W (eSetCmp F f g)) :=
  peWeak (pe_cmpR ho (pe_callTy (cr_setS hc) hg2 hm2 boot_set (pa_cons ha pa_nil hea) (he := hea) (hpl := hpl)) (pe_callTy (cr_setS hc) hg2 hm2 boot_set (pa_cons hb pa_nil heb) (he := heb) (hpl := hpl2)) hmk) fun σ H Q ⟨Hs, ρ, E, h⟩ => by
    refine mk_set2 E h fun zs p Hs1 H1 X1 hp h1 => ?_
    refine mk_set2 (E.up X1) h1 fun ws p2 Hs2 H2 X2 hp2 h2 => ?_
    exact ⟨p, p2, zs, ws, rfl, rfl, X2.same _ _ hp, hp2, h2.here X2.sub (.bl _)⟩
/-- .. as a test -/
def cSetCmp (F : Bool → Bool) (f g : Ex) : Ev → R Bool := fun ρ => (f ρ).bind fun x => (opt (txtsV x)).bind fun zs => (g ρ).bind fun y => (opt (txtsV y)).bind fun ws => .ok (F (setEq zs ws))
theorem vt_setCmp {op : CmpOp} {F : Bool → Bool} (ho : OpR X (compareOp op) (rEqS X.prog X.w F)) (hc : X.calm = true) (hm2 : X.mg "set" = none) (ha : PE X a (tv X.K cl W f)) (hb : PE X b (tv X.K cl W g))
    (hg2 : Gl X "set" := by rfl) (hea : starEach [a] X.env = (false, eval a X.env) :: starEach [] X.env := by rfl) (heb : starEach [b] X.env = (false, eval b X.env) :: starEach [] X.env := by rfl)
    (hpl : (backTo q (starEach [] X.env)).any (·.1) = false := by rfl) (hpl2 : (backTo q2 (starEach [] X.env)).any (·.1) = false := by rfl) (hmk : behindInMarks op (.Call (.Name "set" p3) [b] [] q2) = false := by first | exact nomark _ | rfl) :
    PT X (.Compare (.Call (.Name "set" p2) [a] [] q) [op] [.Call (.Name "set" p3) [b] [] q2] pos) (tt X.K cl W (cSetCmp F f g)) :=
  ptWeak (pt_cmpR ho (pe_callTy (cr_setS hc) hg2 hm2 boot_set (pa_cons ha pa_nil hea) (he := hea) (hpl := hpl)) (pe_callTy (cr_setS hc) hg2 hm2 boot_set (pa_cons hb pa_nil heb) (he := heb) (hpl := hpl2)) hmk) fun σ H Q ⟨Hs, ρ, E, h⟩ => by
    refine mk_set2 E h fun zs p Hs1 H1 X1 hp h1 => ?_
    refine mk_set2 (E.up X1) h1 fun ws p2 Hs2 H2 X2 hp2 h2 => ?_
    exact ⟨p, p2, zs, ws, rfl, rfl, X2.same _ _ hp, hp2, _, rfl, h2.here X2.sub rfl⟩
/-- runs -/
abbrev eLenSet (f : Ex) : Ex := fun ρ => (f ρ).bind fun x => opt (lenSetP x)
end
theorem eLenSet_S (f : Ex) (ρ : Ev) : eLenSet f ρ = (f ρ).bind fun x => opt (lenSetP x) := rfl
theorem eSetCmp_S (F : Bool → Bool) (f g : Ex) (ρ : Ev) : eSetCmp F f g ρ = (f ρ).bind fun x => (opt (txtsV x)).bind fun zs => (g ρ).bind fun y => (opt (txtsV y)).bind fun ws => .ok (.bl (F (setEq zs ws))) := rfl
theorem cSetCmp_S (F : Bool → Bool) (f g : Ex) (ρ : Ev) : cSetCmp F f g ρ = (f ρ).bind fun x => (opt (txtsV x)).bind fun zs => (g ρ).bind fun y => (opt (txtsV y)).bind fun ws => .ok (F (setEq zs ws)) := rfl
theorem txtsV_l {zs : List Str} (h : setOk zs = true) : txtsV (.lst (zs.map .str)) = some zs := by
  show ((strsP (zs.map .str)).bind fun zs => if setOk zs = true then some zs else none) = some zs
  rw [strsP_map]
  exact if_pos h
theorem lenSetP_l {zs : List Str} (h : setOk zs = true) : lenSetP (.lst (zs.map .str)) = some (.int ((ded zs).length : Int)) := by
  show ((strsP (zs.map .str)).bind fun zs => if setOk zs = true then some (PV.int ((ded zs).length : Int)) else none) = _
  rw [strsP_map]
  exact if_pos h
end VL
namespace VL
open PySem PySem.Spec PySem.SeqAt PyProof.Rows L2
/-! < and min of nested data -/
def some1 : PyData → Bool
  | .none => false
  | _ => true
theorem some1_ne {d : PyData} (h : some1 d = true) : d ≠ .none := fun z => by rw [z] at h; cases h
/-- < of two data of one kind -/
def ltD (x y : PV) : Option PV := match x.data, y.data with
  | some d, some e => if PySem.W.alike d e = true ∧ some1 d = true ∧ d.depth ≤ 64 then some (.bl (PySem.W.dataLt d e)) else none
  | _, _ => none
section
variable {X : Cx} {cl : Nat → Addr}
def rLtD (K : PySem.W.Frag) : R2 := fun x y H Q => ∃ d e, Dp K H x d ∧ Dp K H y e ∧ PySem.W.alike d e = true ∧ some1 d = true ∧ d.depth ≤ 64 ∧ Q (.bl (PySem.W.dataLt d e)) H
theorem or_ltD (hu : X.A.units + 64 < cLine) : OpR X (compareOp .Lt) (rLtD X.K) := by
  intro pins s σ H x y v u Q I rx ry h
  obtain ⟨d, e, hd, he, ha, hn, h64, q⟩ := h
  obtain ⟨as, r1⟩ := Dp.reads I d x v hd rx
  obtain ⟨bs, r2⟩ := Dp.reads I e y u he ry
  exact PySem.W.lt_data r1 r2 ha (some1_ne hn) (by have := Nat.min_le_left d.depth e.depth; omega) ⟨.bl _, H, I, rfl, q⟩
theorem ov_ltD : OpV X.K cl (rLtD X.K) ltD := by
  intro W σ Hs H x y u v w Q s rx ry e q
  unfold ltD at e
  split at e
  · rename_i d e1 h1 h2
    split at e
    · rename_i hs
      cases e
      exact ⟨d, e1, (rx.mono s).dp h1, (ry.mono s).dp h2, hs.1, hs.2.1, hs.2.2, q.here s (.bl _)⟩
    · cases e
  · cases e
/-! min -/
def lessAt (ds : List PyData) : Nat → Nat → Bool := fun i j => PySem.W.dataLt (ds.getD i .none) (ds.getD j .none)
def alikeB (ds : List PyData) : Bool := (ds.all fun x => ds.all fun y => PySem.W.alike x y) && ds.all some1
theorem alikeB_ok {ds : List PyData} (h : alikeB ds = true) : PySem.W.AlikeAll ds := by
  unfold alikeB at h
  rw [Bool.and_eq_true, List.all_eq_true, List.all_eq_true] at h
  exact ⟨fun x hx y hy => List.all_eq_true.mp (h.1 x hx) y hy, fun x hx => some1_ne (h.2 x hx)⟩
/-- the least of nested data -/
def minDP : List PV → Option PV
  | [.lst xs] => match PV.datas xs with
    | some (d :: ds) => if alikeB (d :: ds) = true ∧ PyData.depthAll (d :: ds) ≤ 60 then xs[argBest (lessAt (d :: ds)) ds.length]? else none
    | _ => none
  | _ => none
def rMinD (K : PySem.W.Frag) : List V → Hp → VK → Prop := fun vs H Q => ∃ (a : Addr) (xs : List V) (d : PyData) (ds : List PyData) (y : V), vs = [V.ref a] ∧ SqL K H a xs ∧ DpAll K H xs (d :: ds) ∧ alikeB (d :: ds) = true ∧ PyData.depthAll (d :: ds) ≤ 60 ∧ xs[argBest (lessAt (d :: ds)) ds.length]? = some y ∧ Q y H
theorem cr_minD (hc : X.calm = true) (hu : X.A.units + 64 < cLine) : CallR X (.builtin "min") (rMinD X.K) := by
  intro pins s σ H vs us Q I r h
  obtain ⟨a, xs, d, ds, y, rfl, hs, hd, ha, h60, hy, q⟩ := h
  obtain ⟨its, rv, pl, _⟩ := I.list hs
  rw [Vals.ref1 r]
  obtain ⟨as, hr⟩ := Dp.readsAll I (d :: ds) xs its hd rv
  have hl : s.heap.IsList a its.toArray := pl.isList
  have hr' : ReadsAll s.heap its.toArray.toList (d :: ds) as := by simpa using hr
  have hn : its.toArray.size = ds.length + 1 := PySem.W.readsAll_len hr'
  refine call_min_walkH (PySem.W.iter_listW (A := X.A.in1) (I.ok.hd hc) hl fun s₂ e W st hfp hw hk => ?_)
  refine ⟨_, _, _, _, _, _, _, s.heap, _, rfl, W, st, hfp, by omega, hw, hk, PySem.W.cmpIn_lt (A := X.A.in1) hr' (alikeB_ok ha) (by show X.A.units + 1 + _ < _; omega), fun v s' hP m => ?_⟩
  obtain ⟨h', tk, rfl, hk'⟩ := PySem.W.moved_old e rfl m
  obtain ⟨u, hu2, ru⟩ := rv.get hy
  have e1 : its.toArray.size - 1 = ds.length := by omega
  have hP' : its.toArray[argBest (lessAt (d :: ds)) (its.toArray.size - 1)]? = some v := hP
  rw [e1] at hP'
  have e2 : its[argBest (lessAt (d :: ds)) ds.length]? = some v := by simpa using hP'
  rw [hu2] at e2
  cases e2
  exact ⟨y, H, I.kept hk', ru, q⟩
theorem cv_minD : CallV X.K cl (rMinD X.K) minDP := by
  intro W σ Hs H xs us w Q s r e q
  cases r with
  | nil => cases e
  | cons r t =>
    cases t with
    | cons _ _ => cases r <;> cases e
    | nil =>
      cases r with
      | @lst a vs xs h ra =>
        replace e : (match PV.datas xs with
          | some (d :: ds) => if alikeB (d :: ds) = true ∧ PyData.depthAll (d :: ds) ≤ 60 then xs[argBest (lessAt (d :: ds)) ds.length]? else none
          | _ => none) = some w := e
        split at e
        · rename_i d ds e1
          split at e
          · rename_i hs
            obtain ⟨v, g1, g2⟩ := ra.get e
            exact ⟨a, vs, d, ds, v, rfl, .of (s _ _ h), (ra.mono s).dp e1, hs.1, hs.2, g1, q.here s g2⟩
          · cases e
        · cases e
      | _ => cases e
end
end VL
namespace VL
open PySem PySem.Spec PyProof.Rows L2
/-! ### the plain functions, run by simp -/
section
variable {ρ : Ev} {r : Env} {α β : Type}
@[simp] theorem bind_okS (a : α) (f : α → R β) : (R.ok a).bind f = f a := rfl
@[simp] theorem bind_excS (c fs) (f : α → R β) : (R.exc c fs : R α).bind f = .exc c fs := rfl
@[simp] theorem bind_stuckS (f : α → R β) : (R.stuck : R α).bind f = .stuck := rfl
@[simp] theorem opt_someS (a : α) : opt (some a) = .ok a := rfl
@[simp] theorem opt_noneS : opt (none : Option α) = .stuck := rfl
@[simp] theorem eVar_0 (v : PV) (ρ : Ev) : eVar 0 (some v :: ρ) = .ok v := rfl
@[simp] theorem eVar_S (n : Nat) (x : Option PV) (ρ : Ev) : eVar (n + 1) (x :: ρ) = eVar n ρ := rfl
@[simp] theorem eC_S (v : PV) : eC v ρ = .ok v := rfl
@[simp] theorem e1_S (g) (a : Ex) : e1 g a ρ = (a ρ).bind fun x => opt (g x) := rfl
@[simp] theorem e2_S (g) (a b : Ex) : e2 g a b ρ = (a ρ).bind fun x => (b ρ).bind fun y => opt (g x y) := rfl
@[simp] theorem eIf_S (c) (a b : Ex) : eIf c a b ρ = (c ρ).bind fun t => if t = true then a ρ else b ρ := rfl
@[simp] theorem evs_0 : evs [] ρ = .ok [] := rfl
@[simp] theorem evs_S (a : Ex) (r) : evs (a :: r) ρ = (a ρ).bind fun x => (evs r ρ).bind fun xs => .ok (x :: xs) := rfl
@[simp] theorem eArgs_S (g) (as : List Ex) : eArgs g as ρ = (evs as ρ).bind g := rfl
@[simp] theorem eCB_S (g) (as : List Ex) : eCB g as ρ = (evs as ρ).bind fun xs => opt (g xs) := rfl
@[simp] theorem gTup_S (xs : List PV) (h : xs.length ≤ sizeLine) : gTupV xs = .ok (.tup xs) := if_pos h
@[simp] theorem gLst_S (xs : List PV) (h : xs.length ≤ sizeLine) : gLstV xs = .ok (.lst xs) := if_pos h
@[simp] theorem gN_S (n : Nat) (g) (us : List PV) (h : us.length = n) : gN n g us = g us := if_pos h
def asB : PV → R Bool
  | .bl b => .ok b
  | _ => .stuck
@[simp] theorem asB_b (b) : asB (.bl b) = .ok b := rfl
def asI : PV → R (Option Int)
  | .int i => .ok (some i)
  | _ => .stuck
@[simp] theorem asI_i (b) : asI (.int b) = .ok (some b) := rfl
def andK (b : Ex) (ρ : Ev) : PV → R PV
  | .bl t => if t = true then b ρ else .ok (.bl false)
  | _ => .stuck
@[simp] theorem andK_b (b ρ t) : andK b ρ (.bl t) = if t = true then b ρ else .ok (.bl false) := rfl
def orK (b : Ex) (ρ : Ev) : PV → R PV
  | .bl t => if t = true then .ok (.bl true) else b ρ
  | _ => .stuck
@[simp] theorem orK_b (b ρ t) : orK b ρ (.bl t) = if t = true then .ok (.bl true) else b ρ := rfl
def notK : PV → R PV
  | .bl t => .ok (.bl (!t))
  | _ => .stuck
@[simp] theorem notK_b (t) : notK (.bl t) = .ok (.bl (!t)) := rfl
@[simp] theorem eTst_S (a : Ex) : eTst a ρ = (a ρ).bind asB := by unfold eTst; congr <;> (funext x; cases x <;> rfl)
@[simp] theorem eTru_S (a : Ex) : eTru a ρ = (a ρ).bind fun x => opt (truV x) := rfl
@[simp] theorem cAnd_S (a b) : cAnd a b ρ = (a ρ).bind fun t => if t = true then b ρ else .ok false := rfl
@[simp] theorem cOr_S (a b) : cOr a b ρ = (a ρ).bind fun t => if t = true then .ok true else b ρ := rfl
@[simp] theorem cNot_S (a) : cNot a ρ = (a ρ).bind fun t => .ok (!t) := rfl
@[simp] theorem eAnd_S (a b : Ex) : eAnd a b ρ = (a ρ).bind (andK b ρ) := by unfold eAnd; congr <;> (funext x; cases x <;> rfl)
@[simp] theorem eOr_S (a b : Ex) : eOr a b ρ = (a ρ).bind (orK b ρ) := by unfold eOr; congr <;> (funext x; cases x <;> rfl)
@[simp] theorem eNot_S (a : Ex) : eNot a ρ = (a ρ).bind notK := by unfold eNot; congr <;> (funext x; cases x <;> rfl)
@[simp] theorem eChain_S (g g') (a b c : Ex) : eChain g g' a b c ρ = (a ρ).bind fun x => (b ρ).bind fun y => (opt (g x y)).bind (chainK g' c ρ y) := rfl
@[simp] theorem chainK_S (g') (c : Ex) (y : PV) (k : Bool) : chainK g' c ρ y (.bl k) = if k = true then (c ρ).bind fun w => opt (g' y w) else .ok (.bl false) := rfl
@[simp] theorem pNo_S : pNo ρ = .ok none := rfl
@[simp] theorem pAt_S (a : Ex) : pAt a ρ = (a ρ).bind asI := by unfold pAt; congr <;> (funext x; cases x <;> rfl)
@[simp] theorem eSl_S (a : Ex) (lo hi : Pt) : eSl a lo hi ρ = (a ρ).bind fun x => (lo ρ).bind fun l => (hi ρ).bind fun h => opt (slP x l h) := rfl
@[simp] theorem asLst_S (f) : asLst f ρ = (f ρ).bind fun xs => .ok (.lst xs) := rfl
@[simp] theorem eLst1_S (fs : List Ex) : eLst1 fs ρ = (evs fs ρ).bind fun xs => if xs.length ≤ sizeLine then .ok xs else .stuck := rfl
@[simp] theorem eO2_S (g) (a b : Ex) : eO2 g a b ρ = (a ρ).bind fun x => (b ρ).bind fun y => lstOf (g x y) := rfl
@[simp] theorem eOlist_S (a : Ex) : eOlist a ρ = (a ρ).bind fun x => lstOf (listP [x]) := rfl
def oslK (l h : Option Int) : PV → R (List PV)
  | .lst xs => .ok (cutP xs l h)
  | .src xs => .ok (cutP xs l h)
  | _ => .stuck
@[simp] theorem oslK_l (l h xs) : oslK l h (.lst xs) = .ok (cutP xs l h) := rfl
@[simp] theorem eOsl_S (a : Ex) (lo hi : Pt) : eOsl a lo hi ρ = (a ρ).bind fun x => (lo ρ).bind fun l => (hi ρ).bind fun h => oslK l h x := by
  unfold eOsl; congr <;> (funext x; congr <;> (funext l; congr <;> (funext h; cases x <;> rfl)))
@[simp] theorem lstOf_S (xs : List PV) : lstOf (some (.lst xs)) = .ok xs := rfl
@[simp] theorem eLc_S (own t it c e) : eLc own t it c e ρ = (it ρ).bind fun xs => szO (lcL t c e (wipeE ρ own) xs) := rfl
@[simp] theorem szO_S (ys : List PV) : szO (.ok ys) = if ys.length ≤ sizeLine then .ok ys else .stuck := rfl
@[simp] theorem cYes_S : cYes ρ = .ok true := rfl
@[simp] theorem iSeq_S (a : Ex) : iSeq a ρ = (a ρ).bind itemsP := rfl
def rg1 (j : Int) : R (List PV) := if -(2 ^ 62) ≤ j ∧ j < 2 ^ 62 then .ok (rangeP 0 j.toNat) else .stuck
def rg2 (i j : Int) : R (List PV) := if -(2 ^ 62) ≤ i ∧ i < 2 ^ 62 ∧ -(2 ^ 62) ≤ j ∧ j < 2 ^ 62 then .ok (rangeP i (j - i).toNat) else .stuck
@[simp] theorem rg1_nat {n : Nat} (h : n ≤ 1000000000) : rg1 (n : Int) = .ok (rangeP 0 n) := by
  unfold rg1
  rw [if_pos ⟨by omega, by omega⟩]
  rfl
theorem rg2_nat {i n : Nat} (h0 : i ≤ 1000000000) (h : n ≤ 1000000000) : rg2 (i : Int) (n : Int) = .ok (rangeP (i : Int) (n - i)) := by
  unfold rg2
  rw [if_pos ⟨by omega, by omega, by omega, by omega⟩]
  congr 2
  omega
def rgK : PV → R (List PV)
  | .int j => rg1 j
  | _ => .stuck
@[simp] theorem rgK_i (j) : rgK (.int j) = rg1 j := rfl
def rgK2 : PV → PV → R (List PV)
  | .int i, .int j => rg2 i j
  | _, _ => .stuck
@[simp] theorem rgK2_i (i j) : rgK2 (.int i) (.int j) = rg2 i j := rfl
@[simp] theorem iR1_S (a : Ex) : iR1 a ρ = (a ρ).bind rgK := by unfold iR1; congr <;> (funext x; cases x <;> rfl)
@[simp] theorem iR2_S (a b : Ex) : iR2 a b ρ = (a ρ).bind fun x => (b ρ).bind fun y => rgK2 x y := by unfold iR2; congr <;> (funext x; congr <;> (funext y; cases x <;> cases y <;> rfl))
def idxK (b : R PV) : PV → R PV
  | .lst xs => b.bind fun y => opt (idxO xs y)
  | _ => .stuck
@[simp] theorem idxK_l (b xs) : idxK b (.lst xs) = b.bind fun y => opt (idxO xs y) := rfl
@[simp] theorem eIdxL_S (a b : Ex) : eIdxL a b ρ = (a ρ).bind (idxK (b ρ)) := by unfold eIdxL; congr <;> (funext x; cases x <;> rfl)
def idxS (ys : List Str) : PV → R PV
  | .str z => opt ((ys.findIdx? fun x => x == z).map fun (j : Nat) => PV.int ((j : Nat) : Int))
  | _ => .stuck
@[simp] theorem idxS_s (ys z) : idxS ys (.str z) = opt ((ys.findIdx? fun x => x == z).map fun (j : Nat) => PV.int ((j : Nat) : Int)) := rfl
@[simp] theorem eIdxT_S (ys : List Str) (b : Ex) : eIdxT ys b ρ = (b ρ).bind (idxS ys) := by unfold eIdxT; congr <;> (funext x; cases x <;> rfl)
@[simp] theorem wipeE_0 : wipeE ρ [] = ρ := rfl
@[simp] theorem wipeE_S (v vs) : wipeE ρ (v :: vs) = (wipeE ρ vs).set v none := rfl
@[simp] theorem setE_0 : setE [] ρ = ρ := rfl
@[simp] theorem setE_S (i v) (as : As) : setE ((i, v) :: as) ρ = setE as (ρ.set i (some v)) := rfl
@[simp] theorem setS_0 : setS [] r = r := rfl
@[simp] theorem setS_S (i v) (as : As) : setS ((i, v) :: as) r = setS as (r.set i (.fz v)) := rfl
@[simp] theorem tN_S (i : Nat) (v : PV) : tN i v = some [(i, v)] := rfl
@[simp] theorem tT_S (ts : List Tg) (vs : List PV) : tT ts (.tup vs) = tTs ts vs := rfl
@[simp] theorem tTs_0 : tTs [] [] = some [] := rfl
@[simp] theorem tTs_S (t : Tg) (ts : List Tg) (v : PV) (vs : List PV) : tTs (t :: ts) (v :: vs) = (t v).bind fun a => (tTs ts vs).map (a ++ ·) := rfl
/-! slots -/
@[simp] theorem vw_0 (bs : List Bool) : vw bs [] = [] := by unfold vw; rfl
def vw1 (b : Bool) : Sl → Option PV
  | .no => none
  | .fz v => some v
  | .own xs => if b = true then some (.lst xs) else none
@[simp] theorem vw1_n (b) : vw1 b .no = none := rfl
@[simp] theorem vw1_f (b v) : vw1 b (.fz v) = some v := rfl
@[simp] theorem vw1_t (xs) : vw1 true (.own xs) = some (.lst xs) := rfl
@[simp] theorem vw1_o (xs) : vw1 false (.own xs) = none := rfl
@[simp] theorem vw_cons (bs : List Bool) (s : Sl) : vw bs (s :: r) = vw1 (bs.headD false) s :: vw bs.tail r := by cases s <;> rw [vw] <;> rfl
@[simp] theorem fr_0 (bs : List Bool) : fr bs [] = [] := by unfold fr; rfl
def fr1 (b : Bool) : Sl → Sl
  | .own xs => if b = true then .fz (.lst xs) else .own xs
  | s => s
@[simp] theorem fr1_n (b) : fr1 b .no = .no := rfl
@[simp] theorem fr1_f (b v) : fr1 b (.fz v) = .fz v := rfl
@[simp] theorem fr1_t (xs) : fr1 true (.own xs) = .fz (.lst xs) := rfl
@[simp] theorem fr1_o (s) : fr1 false s = s := by cases s <;> rfl
@[simp] theorem fr_cons (bs : List Bool) (s : Sl) : fr bs (s :: r) = fr1 (bs.headD false) s :: fr bs.tail r := by cases s <;> rw [fr] <;> rfl
@[simp] theorem settle_t (bs : List Bool) : settle bs true r = r := rfl
@[simp] theorem settle_f (bs : List Bool) : settle bs false r = fr bs r := rfl
@[simp] theorem settle_nil (b : Bool) : settle [] b r = r := by
  have : fr [] r = r := by
    induction r with
    | nil => simp
    | cons s r ih => simp [ih]
  unfold settle
  rw [this]
  split <;> rfl
@[simp] theorem startE_S (n : Nat) (us : List PV) : startE n us = us.map Sl.fz ++ List.replicate (n - us.length) Sl.no := rfl
@[simp] theorem sPass_S : sPass r = .next r := rfl
@[simp] theorem sBreak_S : sBreak r = .brk r := rfl
@[simp] theorem sCont_S : sCont r = .cont r := rfl
@[simp] theorem sRetN_S : sRetN r = .ret .non := rfl
def seqK (t : Env → Out) : Out → Out
  | .next ρ => t ρ
  | o => o
@[simp] theorem seqK_n (t r) : seqK t (.next r) = t r := rfl
@[simp] theorem seqK_b (t r) : seqK t (.brk r) = .brk r := rfl
@[simp] theorem seqK_c (t r) : seqK t (.cont r) = .cont r := rfl
@[simp] theorem seqK_r (t v) : seqK t (.ret v) = .ret v := rfl
@[simp] theorem seqK_e (t c fs r) : seqK t (.exc c fs r) = .exc c fs r := rfl
@[simp] theorem seqK_s (t) : seqK t .stuck = .stuck := rfl
@[simp] theorem sSeq_S (s t : Env → Out) : sSeq s t r = seqK t (s r) := by unfold sSeq seqK; cases s r <;> rfl
def onK (nl : α → Bool) (bs : List Bool) (r : Env) (k : α → Env → Out) : R α → Out
  | .ok v => k v (settle bs (nl v) r)
  | .exc c fs => .exc c fs (fr bs r)
  | .stuck => .stuck
@[simp] theorem onK_o (nl : α → Bool) (bs r k) (v : α) : onK nl bs r k (.ok v) = k v (settle bs (nl v) r) := rfl
@[simp] theorem onK_e (nl : α → Bool) (bs r k c fs) : onK nl bs r k (.exc c fs) = .exc c fs (fr bs r) := rfl
@[simp] theorem onK_s (nl : α → Bool) (bs r k) : onK nl bs r k .stuck = .stuck := rfl
@[simp] theorem onE_S (nl : α → Bool) (f : Ev → R α) (bs : List Bool) (k : α → Env → Out) : onE nl f bs r k = onK nl bs r k (f (vw bs r)) := by unfold onE onK; cases f (vw bs r) <;> rfl
@[simp] theorem onO_S (f : Ev → R (List PV)) (bs : List Bool) (k : List PV → Env → Out) : onO f bs r k = onK PV.nols bs r k (f (vw bs r)) := by unfold onO onK; cases f (vw bs r) <;> rfl
@[simp] theorem sExpr_S (bs f) : sExpr bs f r = onE PV.nol f bs r fun _ ρ' => .next ρ' := rfl
@[simp] theorem sRet_S (bs f) : sRet bs f r = onE PV.nol f bs r fun v _ => .ret v := rfl
@[simp] theorem sSet_S (i bs f) : sSet i bs f r = onE PV.nol f bs r fun v ρ' => .next (ρ'.set i (.fz v)) := rfl
def tgK (r : Env) : Option As → Out
  | some as => .next (setS as r)
  | none => .stuck
@[simp] theorem tgK_s (r as) : tgK r (some as) = .next (setS as r) := rfl
@[simp] theorem sTg_S (t bs f) : sTg t bs f r = onE PV.nol f bs r fun v ρ' => tgK ρ' (t v) := by unfold sTg; congr <;> (funext v ρ'; cases t v <;> rfl)
@[simp] theorem sPar_S (is bs fs) : sPar is bs fs r = onE PV.nols (evs fs) bs r fun vs ρ' => .next (setS (is.zip vs) ρ') := rfl
@[simp] theorem sOwn_S (i bs f) : sOwn i bs f r = onO f bs r fun xs ρ' => .next (ρ'.set i (.own xs)) := rfl
def ownK (k : List PV → Out) : Option (List PV) → Out
  | some xs => k xs
  | none => .stuck
@[simp] theorem ownK_s (k xs) : ownK k (some xs) = k xs := rfl
@[simp] theorem sMet_S (i g bs fs) : sMet i g bs fs r = ownK (fun _ => onE PV.nols (evs fs) bs r fun vs ρ' => ownK (fun xs => ownK (fun ys => .next (ρ'.set i (.own ys))) (g xs vs)) (getO ρ' i)) (getO r i) := by
  unfold sMet
  cases getO r i with
  | none => rfl
  | some _ =>
    rw [ownK_s]
    refine congrArg (fun k => onE PV.nols (evs fs) bs r k) ?_
    funext vs ρ'
    cases getO ρ' i with
    | none => rfl
    | some xs =>
      rw [ownK_s]
      show (match g xs vs with | none => Out.stuck | some ys => Out.next (List.set ρ' i (Sl.own ys))) = _
      cases g xs vs <;> rfl
def putK (i : Nat) (v : PV) (ρ2 : Env) : Option (List PV) → PV → Out
  | some xs, .int z => ownK (fun _ => ownK (fun ys => .next (ρ2.set i (.own ys))) ((ixN xs.length z).map fun j => xs.set j v)) (some [])
  | _, _ => .stuck
@[simp] theorem putK_s (i v ρ2 xs z) : putK i v ρ2 (some xs) (.int z) = ownK (fun ys => .next (ρ2.set i (.own ys))) ((ixN xs.length z).map fun j => xs.set j v) := rfl
@[simp] theorem sPut_S (i bs fv fi) : sPut i bs fv fi r = onE PV.nol fv bs r fun v ρ1 => ownK (fun _ => onE PV.nol fi bs ρ1 fun k ρ2 => putK i v ρ2 (getO ρ2 i) k) (getO ρ1 i) := by
  unfold sPut
  refine congrArg (fun k => onE PV.nol fv bs r k) ?_
  funext v ρ1
  cases getO ρ1 i with
  | none => rfl
  | some _ =>
    rw [ownK_s]
    refine congrArg (fun k => onE PV.nol fi bs ρ1 k) ?_
    funext k ρ2
    cases getO ρ2 i with
    | none => rfl
    | some xs =>
      cases k with
      | int z =>
        show _ = putK i v ρ2 (some xs) (.int z)
        rw [putK_s]
        show (match ixN xs.length z with | some j => Out.next (ρ2.set i (.own (xs.set j v))) | none => Out.stuck) = _
        cases ixN xs.length z <;> rfl
      | _ => rfl
def augK (g : PV → PV → Option PV) (f : Ex) (bs : List Bool) (i : Nat) (r : Env) : Option Sl → Out
  | some (.fz x) => onE PV.nol f bs r fun y ρ' => ownK (fun z => .next (ρ'.set i (.fz (z.headD .non)))) ((g x y).map fun z => [z])
  | _ => .stuck
@[simp] theorem augK_s (g f bs i r x) : augK g f bs i r (some (.fz x)) = onE PV.nol f bs r fun y ρ' => ownK (fun z => .next (ρ'.set i (.fz (z.headD .non)))) ((g x y).map fun z => [z]) := rfl
@[simp] theorem sAug_S (i g bs f) : sAug i g bs f r = augK g f bs i r r[i]? := by
  unfold sAug
  cases r[i]? with
  | none => rfl
  | some s =>
    cases s with
    | fz x =>
      rw [augK_s]
      refine congrArg (fun k => onE PV.nol f bs r k) ?_
      funext y ρ'
      cases g x y <;> rfl
    | _ => rfl
@[simp] theorem sIf_S (bs c s t) : sIf bs c s t r = onE (fun _ => true) c bs r fun b ρ' => if b = true then s ρ' else t ρ' := rfl
@[simp] theorem sFor_S (nl t bs it s) : sFor nl t bs it s r = onE (fun _ => nl) it bs r fun xs ρ' => forL t s xs ρ' := rfl
def raiK (c : Nat) (r : Env) : Option (List (Str × PV)) → Out
  | some f => .exc c f r
  | none => .stuck
@[simp] theorem raiK_s (c r f) : raiK c r (some f) = .exc c f r := rfl
@[simp] theorem sRaise_S (c mk bs fs) : sRaise c mk bs fs r = onE PV.nols (evs fs) bs r fun us ρ' => raiK c ρ' (mk us) := by
  unfold sRaise; congr <;> (funext us ρ'; cases mk us <;> rfl)
def tryK (hs : List Hd) : Out → Out
  | .exc c fs ρ' => tryH c fs ρ' hs
  | o => o
@[simp] theorem tryK_e (hs c fs r) : tryK hs (.exc c fs r) = tryH c fs r hs := rfl
@[simp] theorem tryK_n (hs r) : tryK hs (.next r) = .next r := rfl
@[simp] theorem tryK_r (hs v) : tryK hs (.ret v) = .ret v := rfl
@[simp] theorem sTry_S (s hs) : sTry s hs r = tryK hs (s r) := by unfold sTry tryK; cases s r <;> rfl
@[simp] theorem getO_0 (xs : List PV) : getO (.own xs :: r) 0 = some xs := rfl
@[simp] theorem getO_S (s : Sl) (n : Nat) : getO (s :: r) (n + 1) = getO r n := by cases s <;> rfl
@[simp] theorem outR_n : outR (.next r) = .ok .non := rfl
@[simp] theorem outR_r (v : PV) : outR (.ret v) = .ok v := rfl
@[simp] theorem outR_e (c fs) : outR (.exc c fs r) = .exc c fs := rfl
@[simp] theorem outR_s : outR .stuck = .stuck := rfl
@[simp] theorem forL_0 (t s) : forL t s [] r = .next r := rfl
end
/-! values -/
@[simp] theorem nol_non : PV.nol .non = true := by simp [PV.nol]
@[simp] theorem nol_bl (b) : PV.nol (.bl b) = true := by simp [PV.nol]
@[simp] theorem nol_int (b) : PV.nol (.int b) = true := by simp [PV.nol]
@[simp] theorem nol_str (b) : PV.nol (.str b) = true := by simp [PV.nol]
@[simp] theorem nol_lst (b) : PV.nol (.lst b) = false := by simp [PV.nol]
@[simp] theorem nol_src (b) : PV.nol (.src b) = false := by simp [PV.nol]
@[simp] theorem nol_tup (b) : PV.nol (.tup b) = PV.nols b := by simp [PV.nol]
@[simp] theorem nols_0 : PV.nols [] = true := by simp [PV.nols]
@[simp] theorem nols_S (x xs) : PV.nols (x :: xs) = (PV.nol x && PV.nols xs) := by simp [PV.nols]
@[simp] theorem addP_i (i j) : addP (.int i) (.int j) = some (.int (i + j)) := rfl
@[simp] theorem addP_l (i j) : addP (.lst i) (.lst j) = if i.length + j.length ≤ sizeLine then some (.lst (i ++ j)) else none := rfl
@[simp] theorem addP_s (i j) : addP (.str i) (.str j) = if i.length + j.length ≤ sizeLine then some (.str (i ++ j)) else none := rfl
@[simp] theorem addIP_i (i j) : addIP (.int i) (.int j) = some (.int (i + j)) := rfl
@[simp] theorem subP_i (i j) : subP (.int i) (.int j) = some (.int (i - j)) := rfl
@[simp] theorem mulP_i (i j) : mulP (.int i) (.int j) = if mulOk i j = true then some (.int (i * j)) else none := rfl
@[simp] theorem mulP_l (xs k) : mulP (.lst xs) (.int k) = if -(2 ^ 63) ≤ k ∧ k < 2 ^ 63 ∧ xs.length * k.toNat ≤ sizeLine then some (.lst (List.replicate k.toNat xs).flatten) else none := rfl
@[simp] theorem modP_i (i j) : modP (.int i) (.int j) = if 0 < j then some (.int (i % j)) else none := rfl
@[simp] theorem divP_i (i j) : divP (.int i) (.int j) = if 0 < j ∧ j < bigI then some (.int (i / j)) else if j < 0 ∧ -bigI < j then some (.int ((-i) / (-j))) else none := rfl
@[simp] theorem negP_i (i) : negP (.int i) = some (.int (-i)) := rfl
@[simp] theorem ltP_i (i j) : ltP (.int i) (.int j) = some (.bl (decide (i < j))) := rfl
@[simp] theorem leP_i (i j) : leP (.int i) (.int j) = some (.bl (decide (i ≤ j))) := rfl
@[simp] theorem gtP_i (i j) : gtP (.int i) (.int j) = some (.bl (decide (j < i))) := rfl
@[simp] theorem geP_i (i j) : geP (.int i) (.int j) = some (.bl (decide (j ≤ i))) := rfl
@[simp] theorem eqB_i (i j) : eqB (.int i) (.int j) = some (decide (i = j)) := rfl
@[simp] theorem eqB_s (i j) : eqB (.str i) (.str j) = some (decide (i = j)) := rfl
@[simp] theorem eqB_b (i j) : eqB (.bl i) (.bl j) = some (decide (i = j)) := rfl
@[simp] theorem eqB_n : eqB .non .non = some true := rfl
@[simp] theorem eqP_S (x y) : eqP x y = (eqB x y).map .bl := rfl
@[simp] theorem neP_S (x y) : neP x y = (eqB x y).map fun b => .bl (!b) := rfl
@[simp] theorem inP_S (x y) : inP x y = (inB x y).map .bl := rfl
@[simp] theorem ninP_S (x y) : ninP x y = (inB x y).map fun b => .bl (!b) := rfl
@[simp] theorem isP_n : isP .non .non = some (.bl true) := rfl
@[simp] theorem isP_i (i) : isP (.int i) .non = some (.bl false) := rfl
@[simp] theorem isP_t (i) : isP (.tup i) .non = some (.bl false) := rfl
@[simp] theorem isP_l (i) : isP (.lst i) .non = some (.bl false) := rfl
@[simp] theorem isP_b (a b) : isP (.bl a) (.bl b) = some (.bl (decide (a = b))) := rfl
@[simp] theorem isntP_n : isntP .non .non = some (.bl false) := rfl
@[simp] theorem isntP_i (i) : isntP (.int i) .non = some (.bl true) := rfl
@[simp] theorem isntP_t (i) : isntP (.tup i) .non = some (.bl true) := rfl
@[simp] theorem isntP_l (i) : isntP (.lst i) .non = some (.bl true) := rfl
@[simp] theorem isntP_b (a b) : isntP (.bl a) (.bl b) = some (.bl (!decide (a = b))) := rfl
@[simp] theorem ixP_l (xs i) : ixP (.lst xs) (.int i) = atI xs i := rfl
@[simp] theorem ixP_r (xs i) : ixP (.src xs) (.int i) = atI xs i := rfl
@[simp] theorem ixP_t (xs i) : ixP (.tup xs) (.int i) = atI xs i := rfl
@[simp] theorem lenP_l (xs) : lenP [.lst xs] = some (.int xs.length) := rfl
@[simp] theorem lenP_r (xs) : lenP [.src xs] = some (.int xs.length) := rfl
@[simp] theorem lenP_t (xs) : lenP [.tup xs] = some (.int xs.length) := rfl
@[simp] theorem absP_i (i) : absP [.int i] = some (.int (if i < 0 then -i else i)) := rfl
@[simp] theorem intP_i (i) : intP [.int i] = some (.int i) := rfl
@[simp] theorem intP_b (b) : intP [.bl b] = some (.int (if b then 1 else 0)) := rfl
@[simp] theorem minP_i (i j) : minP [.int i, .int j] = some (.int (if j < i then j else i)) := rfl
@[simp] theorem maxP_i (i j) : maxP [.int i, .int j] = some (.int (if j > i then j else i)) := rfl
@[simp] theorem sumP_l (xs) : sumP [.lst xs] = (intsP xs).map fun ns => .int ns.sum := rfl
@[simp] theorem listP_l (xs) : listP [.lst xs] = some (.lst xs) := rfl
@[simp] theorem listP_r (xs) : listP [.src xs] = some (.lst xs) := rfl
@[simp] theorem listP_t (xs) : listP [.tup xs] = some (.lst xs) := rfl
@[simp] theorem slP_l (xs lo hi) : slP (.lst xs) lo hi = some (.lst (cutP xs lo hi)) := rfl
@[simp] theorem slP_t (xs lo hi) : slP (.tup xs) lo hi = some (.tup (cutP xs lo hi)) := rfl
@[simp] theorem itemsP_l (xs) : itemsP (.lst xs) = .ok xs := rfl
@[simp] theorem itemsP_t (xs) : itemsP (.tup xs) = .ok xs := rfl
@[simp] theorem truV_b (b) : truV (.bl b) = some b := rfl
@[simp] theorem truV_i (i) : truV (.int i) = some (i != 0) := rfl
@[simp] theorem mApp_S (xs v) : mApp xs [v] = if xs.length < sizeLine then some (xs ++ [v]) else none := rfl
@[simp] theorem isa_S (x n) : isaP [x, .ty n] = (tyName x).bind fun t => (isaT t n).map .bl := rfl
@[simp] theorem tyName_i (i) : tyName (.int i) = some "int" := rfl
@[simp] theorem tyName_t (i) : tyName (.tup i) = some "tuple" := rfl
@[simp] theorem tyName_l (i) : tyName (.lst i) = some "list" := rfl
@[simp] theorem tyName_b (i) : tyName (.bl i) = some "bool" := rfl
@[simp] theorem tyName_s (i) : tyName (.str i) = some "str" := rfl
@[simp] theorem tyName_n : tyName .non = some "NoneType" := rfl
@[simp] theorem isaT_1 : isaT "int" "int" = some true := by decide
@[simp] theorem isaT_2 : isaT "bool" "int" = some true := by decide
@[simp] theorem isaT_3 : isaT "tuple" "tuple" = some true := by decide
@[simp] theorem isaT_4 : isaT "int" "tuple" = some false := by decide
@[simp] theorem isaT_5 : isaT "int" "bool" = some false := by decide
@[simp] theorem isaT_6 : isaT "bool" "bool" = some true := by decide
@[simp] theorem isaT_7 : isaT "NoneType" "bool" = some false := by decide
@[simp] theorem isaT_8 : isaT "NoneType" "int" = some false := by decide
@[simp] theorem isaT_9 : isaT "str" "int" = some false := by decide
theorem szl : sizeLine = 16777216 := sizeLine_eq
/-! indexing -/
theorem atI_nat' {α : Type} {xs : List α} {i : Nat} (h : i < xs.length) : atI xs (i : Int) = some xs[i] := by
  rw [atI_nat (j := i) (List.getElem?_eq_getElem h)]
theorem atI_get {α : Type} {xs : List α} {i : Int} (h0 : 0 ≤ i) (h : i.toNat < xs.length) : atI xs i = some xs[i.toNat] := by
  obtain ⟨n, rfl⟩ := Int.eq_ofNat_of_zero_le h0
  exact atI_nat' (by simpa using h)
theorem atI_neg1 {α : Type} {xs : List α} (h : xs ≠ []) : atI xs (-1) = xs.getLast? := by
  have hl : 0 < xs.length := List.length_pos_iff.mpr h
  unfold atI ixN
  rw [List.getLast?_eq_getElem?, if_neg (by decide), if_pos (by omega)]
  show xs[(-1 + (xs.length : Int)).toNat]? = _
  congr 1
  omega
/-! loops -/
theorem forL_by {t : Tg} {s : Env → Out} {Q : Out → Prop} : ∀ {vs : List PV} {r : Env} (I : Nat → Env → Prop), I 0 r →
    (∀ i v r, vs[i]? = some v → I i r → ∃ as, t v = some as ∧ ((∃ r', (s (setS as r) = .next r' ∨ s (setS as r) = .cont r') ∧ I (i + 1) r') ∨ (∃ r', s (setS as r) = .brk r' ∧ Q (.next r')) ∨ (∃ v, s (setS as r) = .ret v ∧ Q (.ret v)) ∨ ∃ c fs r', s (setS as r) = .exc c fs r' ∧ Q (.exc c fs r'))) →
    (∀ r, I vs.length r → Q (.next r)) → Q (forL t s vs r)
  | [], r, I, h0, _, fin => fin r h0
  | v :: vs, r, I, h0, step, fin => by
    obtain ⟨as, e1, h⟩ := step 0 v r rfl h0
    unfold forL
    rw [e1]
    have rest : ∀ r', I 1 r' → Q (forL t s vs r') := fun r' h1 => forL_by (fun i => I (i + 1)) h1 (fun i v r hv hi => step (i + 1) v r (by simpa using hv) hi) (fun r hr => fin r (by simpa using hr))
    rcases h with ⟨r', e2 | e2, h1⟩ | ⟨r', e2, q⟩ | ⟨v, e2, q⟩ | ⟨c, fs, r', e2, q⟩
    · simp only [e2]; exact rest r' h1
    · simp only [e2]; exact rest r' h1
    · simp only [e2]; exact q
    · simp only [e2]; exact q
    · simp only [e2]; exact q
@[simp] theorem rangeP_len (lo : Int) (n : Nat) : (rangeP lo n).length = n := by simp [rangeP]
theorem rangeP_get {lo : Int} {n i : Nat} {v : PV} (h : (rangeP lo n)[i]? = some v) : i < n ∧ v = .int (lo + (i : Int)) := by
  unfold rangeP at h
  rw [List.getElem?_map] at h
  have hi : i < n := by
    by_cases hi : i < n
    · exact hi
    · rw [List.getElem?_eq_none (by simpa using hi)] at h; cases h
  rw [List.getElem?_range hi] at h
  cases h
  exact ⟨hi, rfl⟩
theorem lcL_map {γ : Type} {t : Tg} {e : Ex} {ρ : Ev} (enc h : γ → PV) : ∀ (xs : List γ), (∀ x ∈ xs, ∃ as, t (enc x) = some as ∧ e (setE as ρ) = .ok (h x)) → lcL t cYes e ρ (xs.map enc) = .ok (xs.map h)
  | [], _ => rfl
  | x :: xs, H => by
    obtain ⟨as, e1, e2⟩ := H x List.mem_cons_self
    have ih := lcL_map enc h xs fun y hy => H y (List.mem_cons_of_mem _ hy)
    simp only [List.map_cons, lcL, e1, cYes_S, e2, ih]
theorem lcL_filter {γ : Type} {t : Tg} {c : Ev → R Bool} {e : Ex} {ρ : Ev} (enc h : γ → PV) (p : γ → Bool) : ∀ (xs : List γ), (∀ x ∈ xs, ∃ as, t (enc x) = some as ∧ c (setE as ρ) = .ok (p x) ∧ (p x = true → e (setE as ρ) = .ok (h x))) → lcL t c e ρ (xs.map enc) = .ok ((xs.filter p).map h)
  | [], _ => rfl
  | x :: xs, H => by
    obtain ⟨as, e1, e2, e3⟩ := H x List.mem_cons_self
    have ih := lcL_filter enc h p xs fun y hy => H y (List.mem_cons_of_mem _ hy)
    cases hp : p x with
    | true => simp only [List.map_cons, lcL, e1, e2, hp, e3 hp, ih, List.filter_cons, if_true]
    | false => simp only [List.map_cons, lcL, e1, e2, hp, ih, List.filter_cons]; rfl
@[simp] theorem intsP_map (ns : List Int) : intsP (ns.map .int) = some ns := by
  induction ns with
  | nil => rfl
  | cons n ns ih => simp [intsP, ih]
@[simp] theorem mulOk_r {i j : Int} (h : -18446744073709551616 < j ∧ j < 18446744073709551616) : mulOk i j = true := by
  unfold mulOk
  rw [show ((2 : Int) ^ 64) = 18446744073709551616 from by decide, decide_eq_true h.1, decide_eq_true h.2]
  simp
theorem mulOk_l {i j : Int} (h : -18446744073709551616 < i ∧ i < 18446744073709551616) : mulOk i j = true := by
  unfold mulOk
  rw [show ((2 : Int) ^ 64) = 18446744073709551616 from by decide, decide_eq_true h.1, decide_eq_true h.2]
  simp
theorem mulOk_b {i j : Int} (h : -bigI < i ∧ i < bigI) (h' : -bigI < j ∧ j < bigI) : mulOk i j = true := by
  unfold mulOk
  rw [decide_eq_true h.1, decide_eq_true h.2, decide_eq_true h'.1, decide_eq_true h'.2]
  simp
theorem bigI_of {j : Int} (h : j < 18446744073709551616) : j < bigI := lt_bigI (by rw [show ((2 : Int) ^ 64) = 18446744073709551616 from by decide]; exact h)
end VL
namespace VL
open PySem PySem.Spec PyProof.Rows L2
/-! ### == of values that are lists and tuples -/
/-- a text without odd signs -/
abbrev okS (z : Str) : Bool := PyData.canLay0 (.str z)
def PV.tm (n : Nat) (x : PV) : Bool := match x.data with
  | some d => PyData.canLay0 d && decide (d.depth ≤ n)
  | none => false
def PV.tms (n : Nat) (x : List PV) : Bool := match PV.datas x with
  | some d => PyData.canLayAll0 d && decide (PyData.depthAll d ≤ n)
  | none => false
def PV.eqv (x y : PV) : Bool := match x.data, y.data with
  | some d, some e => PyData.eqv d e
  | _, _ => false
def PV.eqvs (x y : List PV) : Bool := match PV.datas x, PV.datas y with
  | some d, some e => PyData.eqvAll d e
  | _, _ => false
@[simp] theorem tm_i (n i) : PV.tm n (.int i) = true := by simp [PV.tm, PV.data, PyData.canLay0, PyData.depth]
@[simp] theorem tm_b (n i) : PV.tm n (.bl i) = true := by simp [PV.tm, PV.data, PyData.canLay0, PyData.depth]
@[simp] theorem tm_n (n) : PV.tm n .non = true := by simp [PV.tm, PV.data, PyData.canLay0, PyData.depth]
@[simp] theorem tm_s (n i) : PV.tm n (.str i) = okS i := by simp [PV.tm, PV.data, PyData.depth]
@[simp] theorem tm_t (n xs) : PV.tm (n + 1) (.tup xs) = PV.tms n xs := by
  unfold PV.tm PV.tms
  simp only [PV.data]
  cases PV.datas xs with
  | none => rfl
  | some d => simp [PyData.canLay0, PyData.depth]
@[simp] theorem tm_l (n xs) : PV.tm (n + 1) (.lst xs) = PV.tms n xs := by
  unfold PV.tm PV.tms
  simp only [PV.data]
  cases PV.datas xs with
  | none => rfl
  | some d => simp [PyData.canLay0, PyData.depth]
@[simp] theorem tms_0 (n) : PV.tms n [] = true := by simp [PV.tms, PV.datas, PyData.canLayAll0, PyData.depthAll]
@[simp] theorem tms_S (n x xs) : PV.tms n (x :: xs) = (PV.tm n x && PV.tms n xs) := by
  unfold PV.tm PV.tms
  simp only [PV.datas]
  cases PV.data x with
  | none => simp
  | some d =>
    cases PV.datas xs with
    | none => simp
    | some ds =>
      simp only [Option.bind_some, Option.map_some, PyData.canLayAll0, PyData.depthAll]
      rw [Bool.eq_iff_iff]
      simp only [Bool.and_eq_true, decide_eq_true_eq, Nat.max_le]
      constructor
      · rintro ⟨⟨a, b⟩, c, d⟩; exact ⟨⟨a, c⟩, b, d⟩
      · rintro ⟨⟨a, b⟩, c, d⟩; exact ⟨⟨a, c⟩, b, d⟩
theorem tms_iff {n : Nat} : ∀ {xs : List PV}, PV.tms n xs = true ↔ ∀ x ∈ xs, PV.tm n x = true
  | [] => by simp
  | x :: xs => by simp [tms_iff]
@[simp] theorem eqv_ii (i j) : PV.eqv (.int i) (.int j) = decide (i = j) := by
  show (i == j) = decide (i = j)
  rfl
@[simp] theorem eqv_ss (i j) : PV.eqv (.str i) (.str j) = decide (i = j) := by
  show PyData.eqv (.str i) (.str j) = _
  simp only [PyData.eqv]
  rfl
@[simp] theorem eqv_bb (i j) : PV.eqv (.bl i) (.bl j) = decide (i = j) := by cases i <;> cases j <;> rfl
@[simp] theorem eqv_nn : PV.eqv .non .non = true := rfl
@[simp] theorem eqv_ni (i) : PV.eqv .non (.int i) = false := rfl
@[simp] theorem eqv_in (i) : PV.eqv (.int i) .non = false := rfl
@[simp] theorem eqv_nt (xs) : PV.eqv .non (.tup xs) = false := by
  unfold PV.eqv; simp only [PV.data]; cases PV.datas xs <;> simp [PyData.eqv]
@[simp] theorem eqv_tn (xs) : PV.eqv (.tup xs) .non = false := by
  unfold PV.eqv; simp only [PV.data]; cases PV.datas xs <;> simp [PyData.eqv]
@[simp] theorem eqv_nl (xs) : PV.eqv .non (.lst xs) = false := by
  unfold PV.eqv; simp only [PV.data]; cases PV.datas xs <;> simp [PyData.eqv]
@[simp] theorem eqv_ln (xs) : PV.eqv (.lst xs) .non = false := by
  unfold PV.eqv; simp only [PV.data]; cases PV.datas xs <;> simp [PyData.eqv]
@[simp] theorem eqv_ns (xs) : PV.eqv .non (.str xs) = false := rfl
@[simp] theorem eqv_sn (xs) : PV.eqv (.str xs) .non = false := rfl
@[simp] theorem eqv_tt (xs ys) : PV.eqv (.tup xs) (.tup ys) = PV.eqvs xs ys := by
  unfold PV.eqv PV.eqvs; simp only [PV.data]; cases PV.datas xs <;> cases PV.datas ys <;> simp [PyData.eqv]
@[simp] theorem eqv_ll (xs ys) : PV.eqv (.lst xs) (.lst ys) = PV.eqvs xs ys := by
  unfold PV.eqv PV.eqvs; simp only [PV.data]; cases PV.datas xs <;> cases PV.datas ys <;> simp [PyData.eqv]
@[simp] theorem eqvs_00 : PV.eqvs [] [] = true := by simp [PV.eqvs, PV.datas, PyData.eqvAll]
@[simp] theorem eqvs_0S (x xs) : PV.eqvs [] (x :: xs) = false := by
  unfold PV.eqvs; simp only [PV.datas]; cases PV.data x <;> cases PV.datas xs <;> simp [PyData.eqvAll]
@[simp] theorem eqvs_S0 (x xs) : PV.eqvs (x :: xs) [] = false := by
  unfold PV.eqvs; simp only [PV.datas]; cases PV.data x <;> cases PV.datas xs <;> simp [PyData.eqvAll]
theorem eqvs_SS {x xs y ys} {n : Nat} (hx : PV.tms n (x :: xs) = true) (hy : PV.tms n (y :: ys) = true) : PV.eqvs (x :: xs) (y :: ys) = (PV.eqv x y && PV.eqvs xs ys) := by
  unfold PV.tms at hx hy
  unfold PV.eqvs PV.eqv
  simp only [PV.datas] at *
  cases e1 : PV.data x <;> cases e2 : PV.datas xs <;> cases e3 : PV.data y <;> cases e4 : PV.datas ys <;> simp_all [PyData.eqvAll]
theorem eqB_tm {x y : PV} (hx : PV.tm 64 x = true) (hy : PV.tm 64 y = true) : eqB x y = some (PV.eqv x y) := by
  have gen : (match x.data, y.data with
    | some d, some e => if SeqAt.shaped d = true ∧ SeqAt.shaped e = true then some (PyData.eqv d e) else none
    | _, _ => none) = some (PV.eqv x y) := by
    unfold PV.tm at hx hy
    unfold PV.eqv
    cases e1 : x.data with
    | none => rw [e1] at hx; cases hx
    | some d =>
      cases e2 : y.data with
      | none => rw [e2] at hy; cases hy
      | some e =>
        rw [e1] at hx
        rw [e2] at hy
        exact if_pos ⟨hx, hy⟩
  cases x <;> cases y <;> first | exact gen | simp
theorem eqvs_len : ∀ {xs ys : List PV}, PV.eqvs xs ys = true → xs.length = ys.length
  | [], [], _ => rfl
  | [], _ :: _, h => by simp at h
  | _ :: _, [], h => by simp at h
  | x :: xs, y :: ys, h => by
    unfold PV.eqvs at h
    simp only [PV.datas] at h
    cases e1 : PV.data x <;> cases e2 : PV.datas xs <;> cases e3 : PV.data y <;> cases e4 : PV.datas ys <;> simp [e1, e2, e3, e4] at h
    rename_i a b c d
    simp only [PyData.eqvAll, Bool.and_eq_true] at h
    have := eqvs_len (xs := xs) (ys := ys) (by unfold PV.eqvs; rw [e2, e4]; exact h.2)
    simp [this]
/-- lists of values of one make -/
theorem eqvs_map {γ : Type} [DecidableEq γ] {f : γ → PV} {n : Nat} (hf : ∀ x, PV.tm n (f x) = true → True) (ht : ∀ a b, PV.eqv (f a) (f b) = decide (a = b)) : ∀ {xs ys : List γ}, (∀ x ∈ xs, PV.tm n (f x) = true) → (∀ x ∈ ys, PV.tm n (f x) = true) → PV.eqvs (xs.map f) (ys.map f) = decide (xs = ys)
  | [], [], _, _ => by simp
  | [], y :: ys, _, _ => by simp
  | x :: xs, [], _, _ => by simp
  | x :: xs, y :: ys, h1, h2 => by
    have t1 : PV.tms n ((x :: xs).map f) = true := tms_iff.mpr fun z hz => by
      obtain ⟨a, ha, rfl⟩ := List.mem_map.mp hz
      exact h1 a ha
    have t2 : PV.tms n ((y :: ys).map f) = true := tms_iff.mpr fun z hz => by
      obtain ⟨a, ha, rfl⟩ := List.mem_map.mp hz
      exact h2 a ha
    rw [List.map_cons, List.map_cons, eqvs_SS t1 t2, ht, eqvs_map hf ht (fun a ha => h1 a (List.mem_cons_of_mem _ ha)) (fun a ha => h2 a (List.mem_cons_of_mem _ ha))]
    rw [Bool.eq_iff_iff]
    simp
end VL
namespace PF
open PySem PySem.Spec PyProof.Rows L2 VL
def c_COLOURS : PV := .tup [.str "white", .str "red", .str "green", .str "yellow", .str "dark"]
def c_MOST_PHASES : PV := .int 60
def c_MOST_TIME : PV := .int 6000
def ct_COLOURS : List Str := ["white", "red", "green", "yellow", "dark"]
def sp_BadPhase : Fsp := [("label", .c "BadPhase"), ("number", .a 0)]
noncomputable def b_gcd_of_0 (F : Nat → List PV → R PV) : Ev → R Bool := eTst (e2 gtP (eVar 1) (eC (.int 0)))
noncomputable def b_gcd_of_1 (F : Nat → List PV → R PV) : VL.Env → Out := sPar [0, 1] [] [eVar 1, e2 modP (eVar 0) (eVar 1)]
/-- gcd_of (330): 0 a, 1 b -/
noncomputable def b_gcd_of (F : Nat → List PV → R PV) : VL.Env → Out := sSeq (sWhile [] (b_gcd_of_0 F) (b_gcd_of_1 F)) (sRet [] (eVar 0))
/-- is_phase (371): 0 phase -/
noncomputable def b_is_phase_v1 (F : Nat → List PV → R PV) : VL.Env → Out := sSeq (sIf [] (cOr (cNot (eTru (eCB isaP [eVar 0, eC (.ty "tuple")]))) (cOr (eTst (e2 neP (eCB lenP [eVar 0]) (eC (.int 2)))) (eTst (e2 ninP (e2 ixP (eVar 0) (eC (.int 0))) (eC c_COLOURS))))) (sRet [] (eC (.bl false))) (sPass)) (sRet [] (eAnd (eCB isaP [e2 ixP (eVar 0) (eC (.int 1)), eC (.ty "int")]) (eChain leP leP (eC (.int 1)) (e2 ixP (eVar 0) (eC (.int 1))) (eC c_MOST_TIME))))
noncomputable def b_first_fault_0 (F : Nat → List PV → R PV) : VL.Env → Out := sIf [] (cOr (eTst (e2 eqP (eVar 2) (eVar 1))) (cOr (cNot (eTru (eArgs (gN 1 (F 371)) [e2 ixP (eVar 0) (eVar 2)]))) (cAnd (eTst (e2 gtP (eVar 2) (eC (.int 0)))) (eTst (e2 eqP (e2 ixP (e2 ixP (eVar 0) (eVar 2)) (eC (.int 0))) (e2 ixP (e2 ixP (eVar 0) (e2 subP (eVar 2) (eC (.int 1)))) (eC (.int 0)))))))) (sRet [] (eVar 2)) (sPass)
/-- first_fault (312): 0 phases, 1 most, 2 at -/
noncomputable def b_first_fault (F : Nat → List PV → R PV) : VL.Env → Out := sSeq (sIf [] (eTst (e2 eqP (eCB lenP [eVar 0]) (eC (.int 0)))) (sRet [] (eC (.int 0))) (sPass)) (sSeq (sFor true (tN 2) [] (iR1 (eCB minP [eCB lenP [eVar 0], e2 addP (eVar 1) (eC (.int 1))])) (b_first_fault_0 F)) (sRet [] (eC .non)))
/-- has_one_end (337): 0 phases -/
noncomputable def b_has_one_end (F : Nat → List PV → R PV) : VL.Env → Out := sRet [] (eAnd (e2 gtP (eCB lenP [eVar 0]) (eC (.int 1))) (eAnd (eArgs (gN 1 (F 371)) [e2 ixP (eVar 0) (eC (.int 0))]) (eAnd (eArgs (gN 1 (F 371)) [e2 ixP (eVar 0) (e1 negP (eC (.int 1)))]) (e2 eqP (e2 ixP (e2 ixP (eVar 0) (eC (.int 0))) (eC (.int 0))) (e2 ixP (e2 ixP (eVar 0) (e1 negP (eC (.int 1)))) (eC (.int 0)))))))
/-- check_loose (237): 0 phases, 1 is_longer, 2 fault -/
noncomputable def b_check_loose (F : Nat → List PV → R PV) : VL.Env → Out := sSeq (sSet 1 [] (eAnd (e2 eqP (eCB lenP [eVar 0]) (e2 addP (eC c_MOST_PHASES) (eC (.int 1)))) (eArgs (gN 1 (F 337)) [eVar 0]))) (sSeq (sSet 2 [] (eArgs (gN 2 (F 312)) [eVar 0, eIf (eTru (eVar 1)) (e2 addP (eC c_MOST_PHASES) (eC (.int 1))) (eC c_MOST_PHASES)])) (sIf [] (eTst (e2 isntP (eVar 2) (eC .non))) (sRaise 4 (mkFs 1 sp_BadPhase) [] [eVar 2]) (sPass)))
noncomputable def b_whole_time_0 (F : Nat → List PV → R PV) : Ex := eVar 2
/-- whole_time (650): 0 phases, 1 _, 2 time -/
noncomputable def b_whole_time (F : Nat → List PV → R PV) : VL.Env → Out := sRet [] (eCB sumP [asLst (eLc [1, 2] (tT [tN 1, tN 2]) (iSeq (eVar 0)) (cYes) (b_whole_time_0 F))])
noncomputable def b_place_at_v1_0 (F : Nat → List PV → R PV) : Ev → R Bool := eTst (e2 geP (eVar 2) (e2 ixP (e2 ixP (eVar 0) (eVar 3)) (eC (.int 1))))
noncomputable def b_place_at_v1_1 (F : Nat → List PV → R PV) : VL.Env → Out := sSeq (sAug 2 subP [] (e2 ixP (e2 ixP (eVar 0) (eVar 3)) (eC (.int 1)))) (sAug 3 addIP [] (eC (.int 1)))
/-- place_at (502): 0 phases, 1 time, 2 rest, 3 at -/
noncomputable def b_place_at_v1 (F : Nat → List PV → R PV) : VL.Env → Out := sSeq (sSet 2 [] (e2 modP (eVar 1) (eArgs (gN 1 (F 650)) [eVar 0]))) (sSeq (sSet 3 [] (eC (.int 0))) (sSeq (sWhile [] (b_place_at_v1_0 F) (b_place_at_v1_1 F)) (sRet [] (eArgs gTupV [eVar 3, eVar 2]))))
noncomputable def b_shortest_0 (F : Nat → List PV → R PV) : VL.Env → Out := sIf [] (cAnd (eTst (e2 eqP (e2 modP (eVar 1) (eVar 2)) (eC (.int 0)))) (eTst (e2 eqP (e2 mulP (eSl (eVar 0) (pNo) (pAt (eVar 2))) (e2 divP (eVar 1) (eVar 2))) (eVar 0)))) (sRet [] (eSl (eVar 0) (pNo) (pAt (eVar 2)))) (sPass)
/-- shortest (563): 0 phases, 1 size, 2 count -/
noncomputable def b_shortest (F : Nat → List PV → R PV) : VL.Env → Out := sSeq (sSet 1 [] (eCB lenP [eVar 0])) (sSeq (sFor true (tN 2) [] (iR2 (eC (.int 1)) (eVar 1)) (b_shortest_0 F)) (sRet [] (eCB listP [eVar 0])))
/-- joined (384): 0 phases -/
noncomputable def b_joined (F : Nat → List PV → R PV) : VL.Env → Out := sSeq (sIf [] (cAnd (eTst (e2 gtP (eCB lenP [eVar 0]) (eC (.int 1)))) (eTst (e2 eqP (e2 ixP (e2 ixP (eVar 0) (eC (.int 0))) (eC (.int 0))) (e2 ixP (e2 ixP (eVar 0) (e1 negP (eC (.int 1)))) (eC (.int 0)))))) (sSeq (sIf [] (eTst (e2 eqP (eCB lenP [eVar 0]) (eC (.int 2)))) (sRet [] (eArgs gLstV [eArgs gTupV [e2 ixP (e2 ixP (eVar 0) (eC (.int 0))) (eC (.int 0)), e2 addP (e2 ixP (e2 ixP (eVar 0) (eC (.int 0))) (eC (.int 1))) (e2 ixP (e2 ixP (eVar 0) (eC (.int 1))) (eC (.int 1)))]])) (sPass)) (sRet [] (e2 addP (eSl (eVar 0) (pAt (eC (.int 1))) (pAt (e1 negP (eC (.int 1))))) (eArgs gLstV [eArgs gTupV [e2 ixP (e2 ixP (eVar 0) (eC (.int 0))) (eC (.int 0)), e2 addP (e2 ixP (e2 ixP (eVar 0) (e1 negP (eC (.int 1)))) (eC (.int 1))) (e2 ixP (e2 ixP (eVar 0) (eC (.int 0))) (eC (.int 1)))]])))) (sPass)) (sRet [] (eCB listP [eVar 0]))
noncomputable def b_same_time_0 (F : Nat → List PV → R PV) : Ev → R Bool := eTst (e2 eqP (e2 ixP (e2 ixP (eVar 0) (eVar 5)) (eC (.int 0))) (e2 ixP (e2 ixP (eVar 2) (eVar 7)) (eC (.int 0))))
noncomputable def b_same_time_1 (F : Nat → List PV → R PV) : VL.Env → Out := sSeq (sSet 10 [] (eCB minP [e2 subP (e2 ixP (e2 ixP (eVar 0) (eVar 5)) (eC (.int 1))) (eVar 6), e2 subP (e2 ixP (e2 ixP (eVar 2) (eVar 7)) (eC (.int 1))) (eVar 8)])) (sSeq (sAug 9 addIP [] (eVar 10)) (sSeq (sIf [] (eTst (e2 geP (eVar 9) (eVar 4))) (sRet [] (eC .non)) (sPass)) (sSeq (sAug 6 addIP [] (eVar 10)) (sSeq (sAug 8 addIP [] (eVar 10)) (sSeq (sIf [] (eTst (e2 eqP (eVar 6) (e2 ixP (e2 ixP (eVar 0) (eVar 5)) (eC (.int 1))))) (sPar [5, 6] [] [e2 modP (e2 addP (eVar 5) (eC (.int 1))) (eCB lenP [eVar 0]), eC (.int 0)]) (sPass)) (sIf [] (eTst (e2 eqP (eVar 8) (e2 ixP (e2 ixP (eVar 2) (eVar 7)) (eC (.int 1))))) (sPar [7, 8] [] [e2 modP (e2 addP (eVar 7) (eC (.int 1))) (eCB lenP [eVar 2]), eC (.int 0)]) (sPass)))))))
/-- same_time (539): 0 first, 1 start, 2 second, 3 other, 4 limit, 5 at, 6 gone, 7 there, 8 past, 9 time, 10 step -/
noncomputable def b_same_time (F : Nat → List PV → R PV) : VL.Env → Out := sSeq (sSet 4 [] (e2 addP (eArgs (gN 1 (F 650)) [eVar 0]) (eArgs (gN 1 (F 650)) [eVar 2]))) (sSeq (sAug 4 subP [] (eArgs (gN 2 (F 330)) [eArgs (gN 1 (F 650)) [eVar 0], eArgs (gN 1 (F 650)) [eVar 2]])) (sSeq (sTg (tT [tN 5, tN 6]) [] (eArgs (gN 2 (F 502)) [eVar 0, eVar 1])) (sSeq (sTg (tT [tN 7, tN 8]) [] (eArgs (gN 2 (F 502)) [eVar 2, eVar 3])) (sSeq (sSet 9 [] (eC (.int 0))) (sSeq (sWhile [] (b_same_time_0 F) (b_same_time_1 F)) (sRet [] (eVar 9)))))))
/-- same_shown (538): 0 first, 1 second -/
noncomputable def b_same_shown (F : Nat → List PV → R PV) : VL.Env → Out := sSeq (sExpr [] (eArgs (gN 1 (F 237)) [eVar 0])) (sSeq (sExpr [] (eArgs (gN 1 (F 237)) [eVar 1])) (sRet [] (e2 isP (eArgs (gN 4 (F 539)) [eVar 0, eC (.int 0), eVar 1, eC (.int 0)]) (eC .non))))
noncomputable def b_changes_of_0 (F : Nat → List PV → R PV) : VL.Env → Out := sSeq (sMet 1 mApp [] [eVar 2]) (sAug 2 addIP [] (eVar 4))
/-- changes_of (217): 0 phases, 1 times, 2 time, 3 _, 4 whole -/
noncomputable def b_changes_of (F : Nat → List PV → R PV) : VL.Env → Out := sSeq (sOwn 1 [] (eLst1 [])) (sSeq (sSet 2 [] (eC (.int 0))) (sSeq (sFor false (tT [tN 3, tN 4]) [] (iSeq (eVar 0)) (b_changes_of_0 F)) (sRet [false, true] (eVar 1))))
noncomputable def b_turn_between_0 (F : Nat → List PV → R PV) : Ex := e2 modP (e2 subP (e2 addP (eVar 9) (eVar 5)) (eVar 4)) (eVar 6)
noncomputable def b_turn_between_1 (F : Nat → List PV → R PV) : VL.Env → Out := sIf [] (eTst (e2 isP (eArgs (gN 4 (F 539)) [eVar 0, eC (.int 0), eVar 1, eVar 8]) (eC .non))) (sRet [] (eVar 8)) (sPass)
/-- turn_between (634): 0 first, 1 second, 2 one, 3 other, 4 begin, 5 shift, 6 whole, 7 starts, 8 start, 9 time -/
noncomputable def b_turn_between (F : Nat → List PV → R PV) : VL.Env → Out := sSeq (sSet 2 [] (eArgs (gN 1 (F 384)) [eVar 0])) (sSeq (sSet 3 [] (eArgs (gN 1 (F 384)) [eVar 1])) (sSeq (sIf [] (cOr (eTst (e2 eqP (eCB lenP [eVar 2]) (eC (.int 1)))) (eTst (e2 eqP (eCB lenP [eVar 3]) (eC (.int 1))))) (sRet [] (eIf (cAnd (eTst (e2 eqP (eCB lenP [eVar 2]) (eCB lenP [eVar 3]))) (eTst (e2 eqP (e2 ixP (e2 ixP (eVar 2) (eC (.int 0))) (eC (.int 0))) (e2 ixP (e2 ixP (eVar 3) (eC (.int 0))) (eC (.int 0)))))) (eC (.int 0)) (eC .non))) (sPass)) (sSeq (sSet 4 [] (eIf (eTst (e2 eqP (e2 ixP (e2 ixP (eVar 0) (eC (.int 0))) (eC (.int 0))) (e2 ixP (e2 ixP (eVar 0) (e1 negP (eC (.int 1)))) (eC (.int 0))))) (e2 ixP (e2 ixP (eVar 0) (eC (.int 0))) (eC (.int 1))) (eC (.int 0)))) (sSeq (sSet 5 [] (eIf (eTst (e2 eqP (e2 ixP (e2 ixP (eVar 1) (eC (.int 0))) (eC (.int 0))) (e2 ixP (e2 ixP (eVar 1) (e1 negP (eC (.int 1)))) (eC (.int 0))))) (e2 ixP (e2 ixP (eVar 1) (eC (.int 0))) (eC (.int 1))) (eC (.int 0)))) (sSeq (sSet 6 [] (eArgs (gN 1 (F 650)) [eVar 1])) (sSeq (sSet 7 [] (eCB sortP [asLst (eLc [9] (tN 9) (iSeq (eArgs (gN 1 (F 217)) [eVar 3])) (cYes) (b_turn_between_0 F))])) (sSeq (sFor false (tN 8) [] (iSeq (eVar 7)) (b_turn_between_1 F)) (sRet [] (eC .non)))))))))
/-- same_turned (540): 0 first, 1 second -/
noncomputable def b_same_turned (F : Nat → List PV → R PV) : VL.Env → Out := sSeq (sExpr [] (eArgs (gN 1 (F 237)) [eVar 0])) (sSeq (sExpr [] (eArgs (gN 1 (F 237)) [eVar 1])) (sRet [] (eArgs (gN 2 (F 634)) [eCB listP [eVar 0], eCB listP [eVar 1]])))
noncomputable def b_turns_of_0 (F : Nat → List PV → R PV) : Ex := e2 addP (eSl (eVar 0) (pAt (eVar 1)) (pNo)) (eSl (eVar 0) (pNo) (pAt (eVar 1)))
/-- turns_of (637): 0 phases, 1 at -/
noncomputable def b_turns_of (F : Nat → List PV → R PV) : VL.Env → Out := sRet [] (asLst (eLc [1] (tN 1) (iR1 (eCB lenP [eVar 0])) (cYes) (b_turns_of_0 F)))
noncomputable def b_coloured_0 (F : Nat → List PV → R PV) : Ex := eArgs gTupV [eIdxT ct_COLOURS (eVar 1), eVar 2]
/-- coloured (271): 0 phases, 1 colour, 2 time -/
noncomputable def b_coloured (F : Nat → List PV → R PV) : VL.Env → Out := sRet [] (asLst (eLc [1, 2] (tT [tN 1, tN 2]) (iSeq (eVar 0)) (cYes) (b_coloured_0 F)))
noncomputable def b_least_of_turns_0 (F : Nat → List PV → R PV) : Ex := eArgs (gN 1 (F 271)) [eVar 5]
noncomputable def b_least_of_turns_1 (F : Nat → List PV → R PV) : Ex := eArgs gTupV [e2 ixP (eC c_COLOURS) (eVar 3), eVar 4]
/-- least_of_turns (436): 0 phases, 1 told, 2 least, 3 colour, 4 time, 5 turn -/
noncomputable def b_least_of_turns (F : Nat → List PV → R PV) : VL.Env → Out := sSeq (sSet 1 [] (eArgs (gN 1 (F 563)) [eArgs (gN 1 (F 384)) [eVar 0]])) (sSeq (sIf [] (eTst (e2 eqP (eCB lenP [eVar 1]) (eC (.int 1)))) (sRet [] (eArgs gLstV [eArgs gTupV [e2 ixP (e2 ixP (eVar 1) (eC (.int 0))) (eC (.int 0)), eC (.int 1)]])) (sPass)) (sSeq (sSet 2 [] (eCB minDP [asLst (eLc [5] (tN 5) (iSeq (eArgs (gN 1 (F 637)) [eVar 1])) (cYes) (b_least_of_turns_0 F))])) (sRet [] (asLst (eLc [3, 4] (tT [tN 3, tN 4]) (iSeq (eVar 2)) (cYes) (b_least_of_turns_1 F))))))
/-- least_turn (439): 0 phases -/
noncomputable def b_least_turn (F : Nat → List PV → R PV) : VL.Env → Out := sSeq (sExpr [] (eArgs (gN 1 (F 237)) [eVar 0])) (sRet [] (eArgs (gN 1 (F 436)) [eCB listP [eVar 0]]))
/-- _law_cell (13): 0 script, 1 k -/
noncomputable def b__law_cell (F : Nat → List PV → R PV) : VL.Env → Out := sSeq (sIf [] (eTst (e2 ltP (eVar 1) (eCB lenP [eVar 0]))) (sRet [] (e2 ixP (eVar 0) (eVar 1))) (sPass)) (sRet [] (eC (.int 0)))
noncomputable def b__law_draw_0 (F : Nat → List PV → R PV) : VL.Env → Out := sIf [] (cAnd (eTru (eVar 4)) (eTst (e2 geP (eVar 3) (e2 ixP (eVar 1) (eVar 5))))) (sSeq (sMet 2 mApp [] [e2 modP (eCB intP [eVar 3]) (e2 ixP (eVar 1) (eVar 5))]) (sSet 3 [] (e2 divP (eVar 3) (e2 ixP (eVar 1) (eVar 5))))) (sSeq (sSet 6 [] (e2 modP (eCB intP [e2 addP (e2 mulP (eCB absP [eVar 0]) (eC (.int 48271))) (e2 mulP (e2 addP (eVar 5) (eC (.int 1))) (eC (.int 69621)))]) (eC (.int 2147483647)))) (sSeq (sSet 6 [] (e2 modP (eCB intP [e2 addP (e2 mulP (eVar 6) (eC (.int 16807))) (e2 mulP (e2 addP (eVar 5) (eC (.int 1))) (eC (.int 40692)))]) (eC (.int 2147483399)))) (sMet 2 mApp [] [e2 modP (eCB intP [eVar 6]) (e2 ixP (eVar 1) (eVar 5))])))
/-- _law_draw (22): 0 cell, 1 limits, 2 row, 3 rest, 4 great, 5 k, 6 mixed -/
noncomputable def b__law_draw (F : Nat → List PV → R PV) : VL.Env → Out := sSeq (sOwn 2 [] (eLst1 [])) (sSeq (sSet 3 [] (eCB absP [eVar 0])) (sSeq (sSet 4 [] (e2 geP (eVar 3) (eC (.int 1000000000000000000)))) (sSeq (sFor true (tN 5) [] (iR1 (eCB lenP [eVar 1])) (b__law_draw_0 F)) (sRet [false, false, true] (eVar 2)))))
/-- _law_whole (167): 0 x -/
noncomputable def b__law_whole (F : Nat → List PV → R PV) : VL.Env → Out := sRet [] (eAnd (eCB isaP [eVar 0, eC (.ty "int")]) (eNot (eCB isaP [eVar 0, eC (.ty "bool")])))
noncomputable def b__law_phases_0 (F : Nat → List PV → R PV) : VL.Env → Out := sSeq (sSet 8 [] (eArgs (gN 2 (F 22)) [e2 addP (e2 divP (eVar 0) (eC (.int 3))) (e2 mulP (eC (.int 17)) (eVar 7)), eArgs gLstV [eC (.int 8), eVar 2, eC (.int 6)]])) (sSeq (sSet 9 [] (eC (.str "dark"))) (sSeq (sIf [] (cOr (eTst (e2 eqP (e2 modP (eCB intP [eVar 7]) (eC (.int 2))) (eC (.int 0)))) (eTst (e2 eqP (e2 ixP (eVar 8) (eC (.int 2))) (eC (.int 0))))) (sSet 9 [] (e2 ixP (eArgs gLstV [e2 ixP (eArgs gLstV [eC (.str "white"), eC (.str "white"), eC (.str "red"), eC (.str "green"), eC (.str "yellow"), eC (.str "white"), eC (.str "red"), eC (.str "white")]) (e2 ixP (eVar 8) (eC (.int 0))), eC (.str "dark")]) (eCB intP [eAnd (e2 eqP (eVar 4) (eC (.int 1))) (e2 eqP (e2 ixP (eVar 8) (eC (.int 0))) (eC (.int 7)))]))) (sPass)) (sSeq (sIf [false, false, false, false, false, false, true] (cAnd (eTst (e2 gtP (eCB lenP [eVar 6]) (eC (.int 0)))) (eTst (e2 eqP (e2 ixP (e2 ixP (eVar 6) (e2 subP (eCB lenP [eVar 6]) (eC (.int 1)))) (eC (.int 0))) (eVar 9)))) (sSet 9 [] (e2 ixP (eVar 5) (e2 modP (eCB intP [e2 addP (eIdxL (eVar 5) (eVar 9)) (eC (.int 1))]) (eC (.int 4))))) (sPass)) (sMet 6 mApp [] [eArgs gTupV [eVar 9, e2 addP (eC (.int 1)) (e2 ixP (eVar 8) (eC (.int 1)))]]))))
noncomputable def b__law_phases_1 (F : Nat → List PV → R PV) : Ex := eVar 9
noncomputable def b__law_phases_2 (F : Nat → List PV → R PV) : Ev → R Bool := eTst (e2 ninP (eVar 9) (eArgs gLstV [e2 ixP (e2 ixP (eVar 6) (eC (.int 0))) (eC (.int 0)), e2 ixP (e2 ixP (eVar 6) (e2 subP (eVar 4) (eC (.int 2)))) (eC (.int 0))]))
/-- _law_phases (80): 0 cell, 1 most, 2 longest, 3 d, 4 count, 5 colours, 6 phases, 7 k, 8 e, 9 colour, 10 others -/
noncomputable def b__law_phases (F : Nat → List PV → R PV) : VL.Env → Out := sSeq (sSet 3 [] (eArgs (gN 2 (F 22)) [eVar 0, eArgs gLstV [eVar 1]])) (sSeq (sSet 4 [] (e2 addP (eC (.int 1)) (e2 ixP (eVar 3) (eC (.int 0))))) (sSeq (sSet 5 [] (eArgs gLstV [eC (.str "white"), eC (.str "red"), eC (.str "green"), eC (.str "yellow"), eC (.str "dark")])) (sSeq (sOwn 6 [] (eLst1 [])) (sSeq (sFor true (tN 7) [] (iR1 (eVar 4)) (b__law_phases_0 F)) (sSeq (sIf [false, false, false, false, false, false, true] (cAnd (eTst (e2 gtP (eVar 4) (eC (.int 1)))) (eTst (e2 eqP (e2 ixP (e2 ixP (eVar 6) (eC (.int 0))) (eC (.int 0))) (e2 ixP (e2 ixP (eVar 6) (e2 subP (eVar 4) (eC (.int 1)))) (eC (.int 0)))))) (sSeq (sOwn 10 [false, false, false, false, false, false, true] (eLc [9] (tN 9) (iSeq (eVar 5)) (b__law_phases_2 F) (b__law_phases_1 F))) (sPut 6 [false, false, false, false, false, false, true, false, false, false, true] (eArgs gTupV [e2 ixP (eVar 10) (e2 subP (eCB lenP [eVar 10]) (eC (.int 1))), e2 ixP (e2 ixP (eVar 6) (e2 subP (eVar 4) (eC (.int 1)))) (eC (.int 1))]) (e2 subP (eVar 4) (eC (.int 1))))) (sPass)) (sRet [false, false, false, false, false, false, true] (eVar 6)))))))
noncomputable def b__law_ticks_0 (F : Nat → List PV → R PV) : VL.Env → Out := sSet 1 [] (e2 addP (eVar 1) (e2 mulP (eArgs gLstV [e2 ixP (eVar 2) (eC (.int 0))]) (e2 ixP (eVar 2) (eC (.int 1)))))
/-- _law_ticks (128): 0 phases, 1 row, 2 phase -/
noncomputable def b__law_ticks (F : Nat → List PV → R PV) : VL.Env → Out := sSeq (sSet 1 [] (eArgs gLstV [])) (sSeq (sFor false (tN 2) [] (iSeq (eVar 0)) (b__law_ticks_0 F)) (sRet [] (eVar 1)))
noncomputable def b__law_runs_0 (F : Nat → List PV → R PV) : VL.Env → Out := sIf [false, true] (cAnd (eTst (e2 gtP (eCB lenP [eVar 1]) (eC (.int 0)))) (eTst (e2 eqP (e2 ixP (e2 ixP (eVar 1) (e2 subP (eCB lenP [eVar 1]) (eC (.int 1)))) (eC (.int 0))) (eVar 2)))) (sPut 1 [false, true] (eArgs gTupV [eVar 2, e2 addP (e2 ixP (e2 ixP (eVar 1) (e2 subP (eCB lenP [eVar 1]) (eC (.int 1)))) (eC (.int 1))) (eC (.int 1))]) (e2 subP (eCB lenP [eVar 1]) (eC (.int 1)))) (sMet 1 mApp [] [eArgs gTupV [eVar 2, eC (.int 1)]])
/-- _law_runs (94): 0 row, 1 phases, 2 colour -/
noncomputable def b__law_runs (F : Nat → List PV → R PV) : VL.Env → Out := sSeq (sOwn 1 [] (eLst1 [])) (sSeq (sFor false (tN 2) [] (iSeq (eVar 0)) (b__law_runs_0 F)) (sRet [false, true] (eVar 1)))
noncomputable def b__law_least_0 (F : Nat → List PV → R PV) : VL.Env → Out := sIf [] (cAnd (eTst (e2 eqP (e2 mulP (e2 divP (eCB lenP [eVar 1]) (eVar 2)) (eVar 2)) (eCB lenP [eVar 1]))) (eTst (e2 eqP (eVar 1) (e2 mulP (eSl (eVar 1) (pNo) (pAt (eVar 2))) (e2 divP (eCB lenP [eVar 1]) (eVar 2)))))) (sRet [] (eVar 2)) (sPass)
/-- _law_least (51): 0 phases, 1 row, 2 size -/
noncomputable def b__law_least (F : Nat → List PV → R PV) : VL.Env → Out := sSeq (sSet 1 [] (eArgs (gN 1 (F 128)) [eVar 0])) (sSeq (sFor true (tN 2) [] (iR2 (eC (.int 1)) (e2 addP (eCB lenP [eVar 1]) (eC (.int 1)))) (b__law_least_0 F)) (sRet [] (eCB lenP [eVar 1])))
noncomputable def b__law_order_0 (F : Nat → List PV → R PV) : Ex := eArgs gTupV [eIdxL (eArgs gLstV [eC (.str "white"), eC (.str "red"), eC (.str "green"), eC (.str "yellow"), eC (.str "dark")]) (e2 ixP (eVar 1) (eC (.int 0))), e2 ixP (eVar 1) (eC (.int 1))]
/-- _law_order (76): 0 phases, 1 phase -/
noncomputable def b__law_order (F : Nat → List PV → R PV) : VL.Env → Out := sRet [] (asLst (eLc [1] (tN 1) (iSeq (eVar 0)) (cYes) (b__law_order_0 F)))
noncomputable def b__law_shift_0 (F : Nat → List PV → R PV) : VL.Env → Out := sIf [] (eTst (e2 neP (e2 ixP (eVar 2) (e2 modP (eCB intP [eVar 6]) (eCB lenP [eVar 2]))) (e2 ixP (eVar 3) (e2 modP (eCB intP [e2 addP (eVar 4) (eVar 6)]) (eCB lenP [eVar 3]))))) (sSeq (sSet 5 [] (eC (.bl false))) (sBreak)) (sPass)
noncomputable def b__law_shift_1 (F : Nat → List PV → R PV) : VL.Env → Out := sSeq (sSet 5 [] (eC (.bl true))) (sSeq (sFor true (tN 6) [] (iR1 (e2 mulP (eCB lenP [eVar 2]) (eCB lenP [eVar 3]))) (b__law_shift_0 F)) (sIf [] (eTru (eVar 5)) (sRet [] (eVar 4)) (sPass)))
/-- _law_shift (103): 0 first, 1 second, 2 one, 3 two, 4 shift, 5 same, 6 k -/
noncomputable def b__law_shift (F : Nat → List PV → R PV) : VL.Env → Out := sSeq (sSet 2 [] (eArgs (gN 1 (F 128)) [eVar 0])) (sSeq (sSet 3 [] (eArgs (gN 1 (F 128)) [eVar 1])) (sSeq (sFor true (tN 4) [] (iR1 (eCB lenP [eVar 3])) (b__law_shift_1 F)) (sRet [] (eC .non))))
noncomputable def b__law_turn_0 (F : Nat → List PV → R PV) : VL.Env → Out := sIf [] (cOr (eTst (e2 neP (e2 ixP (eVar 1) (eVar 3)) (e2 ixP (eVar 1) (e2 subP (eVar 3) (eC (.int 1)))))) (eTst (e2 eqP (eLenSet (eVar 1)) (eC (.int 1))))) (sSeq (sSet 4 [] (eArgs (gN 1 (F 94)) [e2 addP (eSl (eVar 1) (pAt (eVar 3)) (pNo)) (eSl (eVar 1) (pNo) (pAt (eVar 3)))])) (sIf [] (cOr (eTst (e2 isP (eVar 2) (eC .non))) (eTst (e2 ltD (eArgs (gN 1 (F 76)) [eVar 4]) (eArgs (gN 1 (F 76)) [eVar 2])))) (sSet 2 [] (eVar 4)) (sPass))) (sPass)
/-- _law_turn (162): 0 phases, 1 row, 2 best, 3 k, 4 turned -/
noncomputable def b__law_turn (F : Nat → List PV → R PV) : VL.Env → Out := sSeq (sSet 1 [] (eSl (eArgs (gN 1 (F 128)) [eVar 0]) (pNo) (pAt (eArgs (gN 1 (F 51)) [eVar 0])))) (sSeq (sSet 2 [] (eC .non)) (sSeq (sFor true (tN 3) [] (iR1 (eCB lenP [eVar 1])) (b__law_turn_0 F)) (sRet [] (eVar 2))))
noncomputable def b_law_v13_t10 (F : Nat → List PV → R PV) : VL.Env → Out := sRet [] (eC (.bl true))
noncomputable def b_law_v13_t9 (F : Nat → List PV → R PV) : VL.Env → Out := sSeq (sIf [] (cAnd (eTst (e2 gtP (eCB lenP [eVar 1]) (eC (.int 1)))) (eTst (e2 gtP (eCB lenP [eVar 2]) (eC (.int 1))))) (sRet [] (e2 eqP (e2 eqP (eArgs (gN 1 (F 439)) [eVar 1]) (eArgs (gN 1 (F 439)) [eVar 2])) (e2 isntP (eVar 5) (eC .non)))) (sPass)) (b_law_v13_t10 F)
noncomputable def b_law_v13_t8 (F : Nat → List PV → R PV) : VL.Env → Out := sSeq (sIf [] (cAnd (eTst (e2 gtP (eCB lenP [eVar 1]) (eC (.int 1)))) (eTst (e2 neP (eArgs (gN 1 (F 439)) [eCB listP [eVar 1]]) (eArgs (gN 1 (F 162)) [eVar 1])))) (sRet [] (eC (.bl false))) (sPass)) (b_law_v13_t9 F)
noncomputable def b_law_v13_t7 (F : Nat → List PV → R PV) : VL.Env → Out := sSeq (sIf [] (cOr (cNot (eTru (eCB isaP [eVar 7, eC (.ty "bool")]))) (eTst (e2 neP (eVar 7) (e2 eqP (eVar 5) (eC (.int 0)))))) (sRet [] (eC (.bl false))) (sPass)) (b_law_v13_t8 F)
noncomputable def b_law_v13_t6 (F : Nat → List PV → R PV) : VL.Env → Out := sSeq (sSet 7 [] (eArgs (gN 2 (F 538)) [eCB listP [eVar 1], eCB listP [eVar 2]])) (b_law_v13_t7 F)
noncomputable def b_law_v13_t5 (F : Nat → List PV → R PV) : VL.Env → Out := sSeq (sIf [] (cOr (eTst (e2 neP (eVar 6) (eVar 5))) (cAnd (eTst (e2 isntP (eVar 6) (eC .non))) (cNot (eTru (eArgs (gN 1 (F 167)) [eVar 6]))))) (sRet [] (eC (.bl false))) (sPass)) (b_law_v13_t6 F)
noncomputable def b_law_v13_t4 (F : Nat → List PV → R PV) : VL.Env → Out := sSeq (sSet 6 [] (eArgs (gN 2 (F 540)) [eCB listP [eVar 1], eCB listP [eVar 2]])) (b_law_v13_t5 F)
noncomputable def b_law_v13_t3 (F : Nat → List PV → R PV) : VL.Env → Out := sSeq (sSet 5 [] (eArgs (gN 2 (F 103)) [eVar 1, eVar 2])) (b_law_v13_t4 F)
noncomputable def b_law_v13_t2 (F : Nat → List PV → R PV) : VL.Env → Out := sSeq (sIf [] (cAnd (eTst (e2 eqP (e2 modP (eCB intP [eArgs (gN 2 (F 13)) [eVar 0, eC (.int 2)]]) (eC (.int 2))) (eC (.int 1)))) (eTst (e2 gtP (eCB lenP [eVar 1]) (eC (.int 1))))) (sSeq (sSet 3 [] (eArgs (gN 1 (F 128)) [eVar 1])) (sSeq (sSet 4 [] (e2 modP (eCB intP [eArgs (gN 2 (F 13)) [eVar 0, eC (.int 3)]]) (eCB lenP [eVar 3]))) (sSeq (sSet 2 [] (eArgs (gN 1 (F 94)) [e2 addP (eSl (eVar 3) (pAt (eVar 4)) (pNo)) (eSl (eVar 3) (pNo) (pAt (eVar 4)))])) (sIf [] (cAnd (eTst (e2 eqP (e2 modP (e2 divP (eCB intP [eArgs (gN 2 (F 13)) [eVar 0, eC (.int 2)]]) (eC (.int 2))) (eC (.int 2))) (eC (.int 1)))) (eTst (e2 neP (e2 ixP (e2 ixP (eVar 2) (eC (.int 0))) (eC (.int 0))) (e2 ixP (e2 ixP (eVar 2) (e2 subP (eCB lenP [eVar 2]) (eC (.int 1)))) (eC (.int 0)))))) (sSet 2 [] (e2 mulP (eVar 2) (eC (.int 2)))) (sPass))))) (sPass)) (b_law_v13_t3 F)
noncomputable def b_law_v13_t1 (F : Nat → List PV → R PV) : VL.Env → Out := sSeq (sSet 2 [] (eArgs (gN 3 (F 80)) [eCB absP [eArgs (gN 2 (F 13)) [eVar 0, eC (.int 1)]], eC (.int 6), eC (.int 6)])) (b_law_v13_t2 F)
/-- law (411): 0 script, 1 first, 2 second, 3 row, 4 at, 5 shift, 6 told, 7 same -/
noncomputable def b_law_v13 (F : Nat → List PV → R PV) : VL.Env → Out := sSeq (sSet 1 [] (eArgs (gN 3 (F 80)) [eCB absP [eArgs (gN 2 (F 13)) [eVar 0, eC (.int 0)]], eC (.int 6), eC (.int 6)])) (b_law_v13_t1 F)
end PF
namespace PH
open PySem PySem.Spec PyProof.Rows L2 VL PF
/-! ### the laws' common words: _law_cell, _law_draw -/
theorem atI_map {α β : Type} (f : α → β) (xs : List α) (i : Int) : atI (xs.map f) i = (atI xs i).map f := by
  unfold atI
  rw [List.length_map]
  cases ixN xs.length i with
  | none => rfl
  | some j => simp
theorem atI_getD {α : Type} {xs : List α} {i : Nat} (d : α) (h : i < xs.length) : atI xs (i : Int) = some (xs.getD i d) := by
  rw [atI_nat' h]
  simp [h]
def cell (ns : List Int) (k : Nat) : Int := ns.getD k 0
def S_cell (g : List PV → R PV) : Prop := ∀ (ns : List Int) (k : Nat), g [.src (ns.map .int), .int (k : Int)] = .ok (.int (cell ns k))
theorem sp_cell (F : Nat → List PV → R PV) : S_cell fun us => outR (b__law_cell F (startE 2 us)) := by
  intro ns k
  unfold cell
  by_cases h : k < ns.length
  · have h' : (k : Int) < (ns.length : Int) := by omega
    simp -implicitDefEqProofs [b__law_cell, h', atI_map, atI_getD 0 h]
  · have h' : ¬ (k : Int) < (ns.length : Int) := by omega
    have e : ns[k]? = none := List.getElem?_eq_none (by omega)
    simp -implicitDefEqProofs [b__law_cell, h', e]
/-- a value of a list at a place -/
def nth (xs : List Int) (i : Nat) : Int := xs.getD i 0
theorem nth_at {xs : List Int} {i : Nat} (h : i < xs.length) : atI (xs.map PV.int) (i : Int) = some (.int (nth xs i)) := by
  rw [atI_map, atI_getD 0 h]
  rfl
def S_draw (g : List PV → R PV) : Prop := ∀ (c : Int) (ls : List Int), ls.length ≤ 1000 → (∀ i < ls.length, 0 < nth ls i ∧ nth ls i < 18446744073709551616) →
  ∃ row : List Int, g [.int c, .lst (ls.map .int)] = .ok (.lst (row.map .int)) ∧ row.length = ls.length ∧ ∀ i < ls.length, 0 ≤ nth row i ∧ nth row i < nth ls i
theorem nth_app {row : List Int} {x : Int} {i : Nat} : nth (row ++ [x]) i = if i < row.length then nth row i else if i = row.length then x else 0 := by
  unfold nth
  rw [List.getD_eq_getElem?_getD, List.getElem?_append]
  split
  · rw [List.getD_eq_getElem?_getD]
  · rename_i h
    split
    · rename_i e; subst e; simp
    · rename_i e
      rw [List.getElem?_eq_none (by simp; omega)]
      rfl
theorem draw_turn (F : Nat → List PV → R PV) {c rest : Int} {great : Bool} {ls row : List Int} {i : Nat} {s6 : Sl} (hi : i < ls.length) (hr : row.length = i) (h0 : 0 < nth ls i) (h1 : nth ls i < 18446744073709551616) (hsz : row.length < sizeLine) :
    ∃ (x rest' : Int) (s : Sl), 0 ≤ x ∧ x < nth ls i ∧ b__law_draw_0 F [.fz (.int c), .fz (.lst (ls.map .int)), .own (row.map .int), .fz (.int rest), .fz (.bl great), .fz (.int (i : Int)), s6] =
      .next [.fz (.int c), .fz (.lst (ls.map .int)), .own ((row ++ [x]).map .int), .fz (.int rest'), .fz (.bl great), .fz (.int (i : Int)), s] := by
  have hb := bigI_of h1
  have hsz' : (row.map PV.int).length < sizeLine := by simpa using hsz
  by_cases hg : great = true ∧ nth ls i ≤ rest
  · refine ⟨rest % nth ls i, rest / nth ls i, s6, Int.emod_nonneg _ (by omega), Int.emod_lt_of_pos _ h0, ?_⟩
    simp -implicitDefEqProofs [b__law_draw_0, nth_at hi, hg.1, hg.2, h0, hb, hsz]
  · have key : ∀ m : Int, 0 ≤ m % nth ls i ∧ m % nth ls i < nth ls i := fun m => ⟨Int.emod_nonneg _ (by omega), Int.emod_lt_of_pos _ h0⟩
    let M : Int := (((if c < 0 then -c else c) * 48271 + ((i : Int) + 1) * 69621) % 2147483647 * 16807 + ((i : Int) + 1) * 40692) % 2147483399
    refine ⟨M % nth ls i, rest, .fz (.int M), (key M).1, (key M).2, ?_⟩
    by_cases hg1 : great = true
    · have hg2 : ¬ nth ls i ≤ rest := fun z => hg ⟨hg1, z⟩
      simp -implicitDefEqProofs [b__law_draw_0, nth_at hi, hg1, hg2, h0, hsz, M]
    · have hg1' : great = false := by simpa using hg1
      simp -implicitDefEqProofs [b__law_draw_0, nth_at hi, hg1', h0, hsz, M]
theorem sp_draw (F : Nat → List PV → R PV) : S_draw fun us => outR (b__law_draw F (startE 7 us)) := by
  intro c ls hl hb
  have loop : ∃ row : List Int, (∃ r1 r2 r3 r4 r5 r6, forL (tN 5) (b__law_draw_0 F) (rangeP 0 ls.length) [.fz (.int c), .fz (.lst (ls.map .int)), .own [], .fz (.int (if c < 0 then -c else c)), .fz (.bl (decide ((1000000000000000000 : Int) ≤ if c < 0 then -c else c))), .no, .no] = .next [r1, r2, .own (row.map .int), r3, r4, r5, r6]) ∧ row.length = ls.length ∧ ∀ i < ls.length, 0 ≤ nth row i ∧ nth row i < nth ls i := by
    refine forL_by (Q := fun o => ∃ row : List Int, (∃ r1 r2 r3 r4 r5 r6, o = .next [r1, r2, .own (row.map .int), r3, r4, r5, r6]) ∧ row.length = ls.length ∧ ∀ i < ls.length, 0 ≤ nth row i ∧ nth row i < nth ls i)
      (fun i r => ∃ (row : List Int) (rest : Int) (g : Bool) (s5 s6 : Sl), r = [.fz (.int c), .fz (.lst (ls.map .int)), .own (row.map .int), .fz (.int rest), .fz (.bl g), s5, s6] ∧ row.length = i ∧ ∀ j < i, 0 ≤ nth row j ∧ nth row j < nth ls j)
      ⟨[], _, _, _, _, rfl, rfl, fun j hj => by omega⟩ (fun i v r hv hi => ?_) (fun r hr => ?_)
    · obtain ⟨hi1, rfl⟩ := rangeP_get hv
      obtain ⟨row, rest, g, s5, s6, rfl, hlen, hbd⟩ := hi
      obtain ⟨x, rest', s, hx0, hx1, e⟩ := draw_turn F (c := c) (rest := rest) (great := g) (s6 := s6) hi1 hlen (hb i hi1).1 (hb i hi1).2 (by rw [szl]; omega)
      refine ⟨_, rfl, .inl ⟨_, .inl ?_, row ++ [x], rest', g, .fz (.int (i : Int)), s, rfl, by simp [hlen], fun j hj => ?_⟩⟩
      · rw [← e]
        simp -implicitDefEqProofs
      · rw [nth_app]
        by_cases hj1 : j < row.length
        · rw [if_pos hj1]; exact hbd j (by omega)
        · rw [if_neg hj1, if_pos (by omega), show j = i by omega]
          exact ⟨hx0, hx1⟩
    · obtain ⟨row, rest, g, s5, s6, rfl, hlen, hbd⟩ := hr
      rw [rangeP_len] at hlen hbd
      exact ⟨row, ⟨_, _, _, _, _, _, rfl⟩, hlen, hbd⟩
  obtain ⟨row, ⟨r1, r2, r3, r4, r5, r6, e⟩, h1, h2⟩ := loop
  refine ⟨row, ?_, h1, h2⟩
  have hl2 : ls.length ≤ 1000000000 := Nat.le_trans hl (by decide)
  simp -implicitDefEqProofs [b__law_draw, rg1_nat hl2, e, szl]
end PH
namespace PH
open PySem PySem.Spec PyProof.Rows L2 VL PF
/-! ### phases -/
abbrev Ph := Str × Int
def encP (p : Ph) : PV := .tup [.str p.1, .int p.2]
def encPs (ps : List Ph) : PV := .lst (ps.map encP)
def COL : List Str := ["white", "red", "green", "yellow", "dark"]
def isPh (p : Ph) : Bool := decide (p.1 ∈ COL) && (decide (1 ≤ p.2) && decide (p.2 ≤ 6000))
def d0 : Ph := ("", 0)
theorem in_col (c : Str) : inB (.str c) c_COLOURS = some (decide (c ∈ COL)) := by
  show some _ = _
  congr 1
  rw [Bool.eq_iff_iff]
  simp only [c_COLOURS, COL, List.any_cons, List.any_nil, eqF, Bool.or_false, Bool.or_eq_true, beq_iff_eq, decide_eq_true_eq, List.mem_cons, List.not_mem_nil, or_false]
  constructor <;> (intro h; rcases h with h | h | h | h | h <;> simp [h])
def ph (ps : List Ph) (i : Nat) : Ph := ps.getD i d0
def S_is_phase (g : List PV → R PV) : Prop := ∀ p : Ph, g [encP p] = .ok (.bl (isPh p))
theorem sp_is_phase (F : Nat → List PV → R PV) : S_is_phase fun us => outR (b_is_phase_v1 F (startE 1 us)) := by
  intro p
  obtain ⟨c, t⟩ := p
  unfold isPh
  by_cases hc : c ∈ COL
  · by_cases h1 : 1 ≤ t
    · simp [b_is_phase_v1, encP, in_col, hc, h1, atI, ixN, c_MOST_TIME]
    · simp [b_is_phase_v1, encP, in_col, hc, h1, atI, ixN, c_MOST_TIME]
  · simp [b_is_phase_v1, encP, in_col, hc, atI, ixN]

theorem encP_ix0 (p : Ph) : ixP (encP p) (.int 0) = some (.str p.1) := rfl
theorem encP_ix1 (p : Ph) : ixP (encP p) (.int 1) = some (.int p.2) := rfl
theorem encPs_ix {ps : List Ph} {i : Nat} (h : i < ps.length) : ixP (encPs ps) (.int (i : Int)) = some (encP (ph ps i)) := by
  show atI (ps.map encP) (i : Int) = _
  rw [atI_map, atI_getD d0 h]
  rfl
theorem encPs_ixN {ps : List Ph} (h : ps ≠ []) : ixP (encPs ps) (.int (-1)) = some (encP (ps.getLast h)) := by
  show atI (ps.map encP) (-1) = _
  rw [atI_map, atI_neg1 h, List.getLast?_eq_some_getLast h]
  rfl
theorem encPs_len (ps : List Ph) : lenP [encPs ps] = some (.int ps.length) := by
  show some (PV.int ((ps.map encP).length : Int)) = _
  rw [List.length_map]
/-- the fault at i -/
def badAt (ps : List Ph) (most : Nat) (i : Nat) : Bool := decide (i = most) || (!isPh (ph ps i) || (decide (0 < i) && decide ((ph ps i).1 = (ph ps (i - 1)).1)))
def ffO (ps : List Ph) (most : Nat) : Option Nat := if ps = [] then some 0 else (List.range (min ps.length (most + 1))).find? (badAt ps most)
def oint : Option Nat → PV
  | some k => .int (k : Int)
  | none => .non
def S_first_fault (g : List PV → R PV) : Prop := ∀ (ps : List Ph) (most : Nat), ps.length ≤ 1000000 → most ≤ 1000000 → g [encPs ps, .int (most : Int)] = .ok (oint (ffO ps most))
theorem ff_turn {F : Nat → List PV → R PV} (h1 : S_is_phase (F 371)) {ps : List Ph} {most i : Nat} (hi : i < ps.length) :
      b_first_fault_0 F [.fz (encPs ps), .fz (.int (most : Int)), .fz (.int (i : Int))] = if badAt ps most i = true then .ret (.int (i : Int)) else .next [.fz (encPs ps), .fz (.int (most : Int)), .fz (.int (i : Int))] := by
  unfold b_first_fault_0 badAt
  by_cases c1 : i = most
  · simp [c1]
  · have c1' : ¬ ((i : Int) = (most : Int)) := by omega
    have hF := h1 (ph ps i)
    by_cases c2 : isPh (ph ps i) = true
    · by_cases c3 : 0 < i
      · have e3 : ((i : Int) - 1) = ((i - 1 : Nat) : Int) := by omega
        have hi1 : i - 1 < ps.length := by omega
        simp [c1, c1', encPs_ix hi, hF, c2, c3, e3, encPs_ix hi1, encP_ix0]
      · simp [c1, c1', encPs_ix hi, hF, c2, c3]
    · simp [c1, c1', encPs_ix hi, hF, c2]
/-- for i in range(n): if bad(i): return i -/
theorem find_loop {s : VL.Env → Out} {p : Nat → Bool} {v : Nat → PV} {tgt : Nat} {I : VL.Env → Prop} {n : Nat} {r : VL.Env} (h0 : I r) (turn : ∀ i r, i < n → I r → ∃ r', I r' ∧ s (r.set tgt (.fz (.int (i : Int)))) = if p i = true then .ret (v i) else .next r') :
    (∃ r', forL (tN tgt) s (rangeP 0 n) r = .next r' ∧ I r' ∧ (List.range n).find? p = none) ∨ ∃ k : Nat, forL (tN tgt) s (rangeP 0 n) r = .ret (v k) ∧ (List.range n).find? p = some k := by
  refine forL_by (Q := fun o => (∃ r', o = .next r' ∧ I r' ∧ (List.range n).find? p = none) ∨ ∃ k : Nat, o = .ret (v k) ∧ (List.range n).find? p = some k) (fun i r => I r ∧ ∀ j < i, p j = false) ⟨h0, fun j hj => by omega⟩ (fun i w r hv hi => ?_) (fun r hr => ?_)
  · obtain ⟨hi1, rfl⟩ := rangeP_get hv
    obtain ⟨hI, hno⟩ := hi
    obtain ⟨r', hI', e⟩ := turn i r hi1 hI
    refine ⟨_, rfl, ?_⟩
    have e2 : setS [(tgt, PV.int (0 + (i : Int)))] r = r.set tgt (.fz (.int (i : Int))) := by simp
    rw [e2, e]
    by_cases hb : p i = true
    · refine .inr (.inr (.inl ⟨v i, by rw [if_pos hb], .inr ⟨i, rfl, ?_⟩⟩))
      rw [List.find?_range_eq_some]
      exact ⟨hb, by simpa using hi1, fun j hj => by simp [hno j hj]⟩
    · refine .inl ⟨r', .inl (by rw [if_neg hb]), hI', fun j hj => ?_⟩
      by_cases hji : j = i
      · subst hji; simpa using hb
      · exact hno j (by omega)
  · refine .inl ⟨r, rfl, hr.1, ?_⟩
    rw [List.find?_range_eq_none]
    intro j hj
    have := hr.2 j (by simpa using hj)
    simp [this]
theorem sp_first_fault {F : Nat → List PV → R PV} (h1 : S_is_phase (F 371)) : S_first_fault fun us => outR (b_first_fault F (startE 3 us)) := by
  intro ps most hl hm
  unfold b_first_fault ffO
  by_cases hp : ps = []
  · subst hp
    simp [encPs, oint]
  · have hp0 : ps.length ≠ 0 := by simpa using hp
    have hlen : ¬ ((ps.length : Int) = 0) := by omega
    have hmin : (if (most : Int) + 1 < (ps.length : Int) then (most : Int) + 1 else (ps.length : Int)) = ((min ps.length (most + 1) : Nat) : Int) := by
      split <;> omega
    have hb1 : min ps.length (most + 1) ≤ 1000000000 := Nat.le_trans (Nat.min_le_left _ _) (Nat.le_trans hl (by decide))
    generalize hn : min ps.length (most + 1) = n at *
    have hn2 : n ≤ ps.length := by omega
    rcases find_loop (s := b_first_fault_0 F) (p := badAt ps most) (v := fun k => .int (k : Int)) (tgt := 2) (n := n) (I := fun r => ∃ s, r = [.fz (encPs ps), .fz (.int (most : Int)), s]) (r := [.fz (encPs ps), .fz (.int (most : Int)), .no]) ⟨_, rfl⟩ (fun i r hi ⟨s, e⟩ => by
      subst e
      exact ⟨_, ⟨_, rfl⟩, ff_turn h1 (by omega)⟩) with ⟨r', e1, _, e2⟩ | ⟨k, e1, e2⟩
    · simp -implicitDefEqProofs [encPs_len, hlen, hmin, rg1_nat hb1, hp, e1, e2, oint]
    · simp -implicitDefEqProofs [encPs_len, hlen, hmin, rg1_nat hb1, hp, e1, e2, oint]

/-! ### the checks -/
theorem encPs_ix0 {p : Ph} {r : List Ph} : ixP (encPs (p :: r)) (.int 0) = some (encP p) := by
  show atI ((p :: r).map encP) ((0 : Nat) : Int) = _
  rw [atI_nat' (by simp)]
  rfl
/-- a well-made character, its ends aside -/
structure Chain (ps : List Ph) : Prop where
  ne : ps ≠ []
  ok : ∀ p ∈ ps, isPh p = true
  adj : ∀ i, i + 1 < ps.length → (ph ps i).1 ≠ (ph ps (i + 1)).1
/-- .. whose ends are of different colours -/
structure Good (ps : List Ph) : Prop extends Chain ps where
  ends : 1 < ps.length → (ph ps 0).1 ≠ (ph ps (ps.length - 1)).1
theorem ph_mem {ps : List Ph} {i : Nat} (h : i < ps.length) : ph ps i ∈ ps := by
  unfold ph
  rw [List.getD_eq_getElem?_getD, List.getElem?_eq_getElem h]
  exact List.getElem_mem h
theorem ff_good {ps : List Ph} {most : Nat} (c : Chain ps) (hl : ps.length ≤ most) : ffO ps most = none := by
  unfold ffO
  rw [if_neg c.ne, List.find?_range_eq_none]
  intro i hi
  have h1 : i < ps.length := by omega
  unfold badAt
  rw [decide_eq_false (by omega), c.ok _ (ph_mem h1)]
  by_cases h0 : 0 < i
  · have := c.adj (i - 1) (by omega)
    rw [show i - 1 + 1 = i by omega] at this
    simp [Ne.symm this]
  · simp [h0]
theorem getLast_ph {ps : List Ph} (h : ps ≠ []) : ps.getLast h = ph ps (ps.length - 1) := by
  unfold ph
  rw [List.getLast_eq_getElem, List.getD_eq_getElem?_getD, List.getElem?_eq_getElem (by have := List.length_pos_iff.mpr h; omega)]
  rfl
end PH
namespace PH
/-! ### tenths and runs -/
open PySem (Str)
def ticks (ps : List Ph) : List Str := ps.flatMap fun p => List.replicate p.2.toNat p.1
@[simp] theorem ticks_nil : ticks [] = [] := rfl
@[simp] theorem ticks_cons (p : Ph) (r : List Ph) : ticks (p :: r) = List.replicate p.2.toNat p.1 ++ ticks r := by simp [ticks]
theorem ticks_app (a b : List Ph) : ticks (a ++ b) = ticks a ++ ticks b := by simp [ticks]
def Adj : List Ph → Prop
  | [] => True
  | [_] => True
  | p :: q :: r => p.1 ≠ q.1 ∧ Adj (q :: r)
def Pos (ps : List Ph) : Prop := ∀ p ∈ ps, 1 ≤ p.2
theorem adj_of : ∀ {ps : List Ph}, (∀ i, i + 1 < ps.length → (ph ps i).1 ≠ (ph ps (i + 1)).1) → Adj ps
  | [], _ => trivial
  | [_], _ => trivial
  | p :: q :: r, h => ⟨h 0 (by simp), adj_of fun i hi => by
    have := h (i + 1) (by simp at hi ⊢; omega)
    simpa [ph] using this⟩
theorem adj_at : ∀ {ps : List Ph}, Adj ps → ∀ i, i + 1 < ps.length → (ph ps i).1 ≠ (ph ps (i + 1)).1
  | [], _, i, h => by simp at h
  | [_], _, i, h => by simp at h
  | p :: q :: r, ⟨h1, h2⟩, 0, h => h1
  | p :: q :: r, ⟨h1, h2⟩, i + 1, h => by
    have := adj_at h2 i (by simp at h ⊢; omega)
    simpa [ph] using this
def hd (ps : List Ph) : Option Str := ps.head?.map (·.1)
def lastC (ps : List Ph) : Option Str := ps.getLast?.map (·.1)
theorem adj_cons {p : Ph} {r : List Ph} : Adj (p :: r) ↔ (hd r ≠ some p.1) ∧ Adj r := by
  cases r with
  | nil => simp [Adj, hd]
  | cons q r => simp [Adj, hd, eq_comm]
theorem adj_app : ∀ {a b : List Ph}, Adj (a ++ b) ↔ Adj a ∧ Adj b ∧ (a = [] ∨ b = [] ∨ lastC a ≠ hd b)
  | [], b => by simp [Adj]
  | [p], b => by
    rw [List.singleton_append, adj_cons]
    cases b with
    | nil => simp [Adj, hd]
    | cons q r => simp [Adj, hd, lastC, eq_comm, and_comm]
  | p :: q :: a, b => by
    have ih := adj_app (a := q :: a) (b := b)
    simp only [List.cons_append] at ih ⊢
    have e : lastC (p :: q :: a) = lastC (q :: a) := by simp [lastC]
    rw [e]
    simp only [Adj]
    rw [ih]
    simp
    constructor
    · rintro ⟨a1, a2, a3, a4⟩; exact ⟨⟨a1, a2⟩, a3, a4⟩
    · rintro ⟨⟨a1, a2⟩, a3, a4⟩; exact ⟨a1, a2, a3, a4⟩
/-- what _law_runs does at a colour -/
def runStep (acc : List Ph) (c : Str) : List Ph := match acc.getLast? with
  | some l => if l.1 = c then acc.dropLast ++ [(c, l.2 + 1)] else acc ++ [(c, 1)]
  | none => [(c, 1)]
def runs (row : List Str) : List Ph := row.foldl runStep []
theorem run_rep (c : Str) : ∀ (n : Nat) (acc : List Ph) (k : Int), (List.replicate n c).foldl runStep (acc ++ [(c, k)]) = acc ++ [(c, k + n)]
  | 0, acc, k => by simp
  | n + 1, acc, k => by
    rw [List.replicate_succ, List.foldl_cons]
    have e : runStep (acc ++ [(c, k)]) c = acc ++ [(c, k + 1)] := by simp [runStep]
    rw [e, run_rep c n acc (k + 1)]
    congr 3
    omega
theorem run_new {c : Str} {n : Nat} (hn : 1 ≤ n) {acc : List Ph} (h : lastC acc ≠ some c) : (List.replicate n c).foldl runStep acc = acc ++ [(c, (n : Int))] := by
  obtain ⟨m, rfl⟩ : ∃ m, n = m + 1 := ⟨n - 1, by omega⟩
  rw [List.replicate_succ, List.foldl_cons]
  have e : runStep acc c = acc ++ [(c, 1)] := by
    unfold runStep
    unfold lastC at h
    cases hl : acc.getLast? with
    | none =>
      rw [List.getLast?_eq_none_iff] at hl
      subst hl
      rfl
    | some l =>
      rw [hl] at h
      simp only
      rw [if_neg]
      intro e
      apply h
      simp [e]
  rw [e, run_rep]
  congr 3
  omega
theorem runs_go : ∀ (ps acc : List Ph), Adj ps → Pos ps → (ps = [] ∨ lastC acc ≠ hd ps) → (ticks ps).foldl runStep acc = acc ++ ps
  | [], acc, _, _, _ => by simp
  | p :: r, acc, ha, hp, hl => by
    have hp1 := hp p List.mem_cons_self
    rw [ticks_cons, List.foldl_append]
    rw [run_new (by omega) (by
      rcases hl with h | h
      · cases h
      · simpa [hd] using h)]
    have e : (p.1, ((p.2.toNat : Nat) : Int)) = p := by
      rw [Int.toNat_of_nonneg (by omega)]
    rw [e]
    rw [adj_cons] at ha
    rw [runs_go r (acc ++ [p]) ha.2 (fun q hq => hp q (List.mem_cons_of_mem _ hq))]
    · simp
    · by_cases hr : r = []
      · exact .inl hr
      · exact .inr (by simpa [lastC] using Ne.symm ha.1)
theorem runs_ticks {ps : List Ph} (ha : Adj ps) (hp : Pos ps) : runs (ticks ps) = ps := by
  unfold runs
  rw [runs_go ps [] ha hp]
  · rfl
  · cases ps with
    | nil => exact .inl rfl
    | cons p r => exact .inr (by simp [lastC, hd])
theorem ticks_inj {a b : List Ph} (ha : Adj a) (pa : Pos a) (hb : Adj b) (pb : Pos b) (e : ticks a = ticks b) : a = b := by
  rw [← runs_ticks ha pa, ← runs_ticks hb pb, e]
theorem Pos.app {a b : List Ph} : Pos (a ++ b) ↔ Pos a ∧ Pos b := by
  unfold Pos
  constructor
  · exact fun h => ⟨fun p hp => h p (List.mem_append_left _ hp), fun p hp => h p (List.mem_append_right _ hp)⟩
  · rintro ⟨h1, h2⟩ p hp
    rcases List.mem_append.mp hp with hp | hp
    · exact h1 p hp
    · exact h2 p hp
/-! runs of any row -/
theorem runStep_ok {acc : List Ph} {c : Str} (ha : Adj acc) (hp : Pos acc) : Adj (runStep acc c) ∧ Pos (runStep acc c) ∧ ticks (runStep acc c) = ticks acc ++ [c] ∧ runStep acc c ≠ [] := by
  unfold runStep
  cases hl : acc.getLast? with
  | none =>
    rw [List.getLast?_eq_none_iff] at hl
    subst hl
    refine ⟨trivial, fun p hp => ?_, rfl, by simp⟩
    simp at hp
    subst hp
    exact Int.le_refl 1
  | some l =>
    have hne : acc ≠ [] := by intro e; subst e; simp at hl
    have hd' : acc = acc.dropLast ++ [l] := by
      have e := List.dropLast_concat_getLast hne
      rw [List.getLast?_eq_some_getLast hne] at hl
      rw [Option.some.inj hl] at e
      exact e.symm
    have hpl : 1 ≤ l.2 := hp l (List.mem_of_getLast? hl)
    simp only
    split
    · rename_i e
      refine ⟨?_, ?_, ?_, by simp⟩
      · rw [hd', adj_app] at ha
        rw [adj_app]
        refine ⟨ha.1, trivial, ?_⟩
        rcases ha.2.2 with h | h | h
        · exact .inl h
        · cases h
        · exact .inr (.inr (by simpa [hd, e] using h))
      · rw [hd', Pos.app] at hp
        rw [Pos.app]
        exact ⟨hp.1, fun p hp => by simp at hp; subst hp; show 1 ≤ l.2 + 1; omega⟩
      · conv => rhs; rw [hd']
        rw [ticks_app, ticks_app]
        simp only [ticks_cons, ticks_nil, List.append_nil, List.append_assoc]
        rw [show (l.2 + 1).toNat = l.2.toNat + 1 by omega, List.replicate_succ', e]
    · rename_i e
      refine ⟨?_, ?_, ?_, by simp⟩
      · rw [adj_app]
        exact ⟨ha, trivial, .inr (.inr (by simp [lastC, hl, hd, e]))⟩
      · rw [Pos.app]
        exact ⟨hp, fun p hp => by simp at hp; subst hp; exact Int.le_refl 1⟩
      · rw [ticks_app]; rfl
theorem runs_any (row : List Str) : Adj (runs row) ∧ Pos (runs row) ∧ ticks (runs row) = row := by
  have go : ∀ (row : List Str) (acc : List Ph), Adj acc → Pos acc → Adj (row.foldl runStep acc) ∧ Pos (row.foldl runStep acc) ∧ ticks (row.foldl runStep acc) = ticks acc ++ row := by
    intro row
    induction row with
    | nil => intro acc h1 h2; exact ⟨h1, h2, by simp⟩
    | cons c row ih =>
      intro acc h1 h2
      obtain ⟨a1, a2, a3, _⟩ := runStep_ok (c := c) h1 h2
      obtain ⟨b1, b2, b3⟩ := ih _ a1 a2
      exact ⟨b1, b2, by rw [List.foldl_cons, b3, a3]; simp⟩
  obtain ⟨a, b, c⟩ := go row [] trivial (fun p hp => by simp at hp)
  exact ⟨a, b, by show ticks (List.foldl runStep [] row) = row; simpa using c⟩
theorem ticks_len {ps : List Ph} (hp : Pos ps) : ((ticks ps).length : Int) = (ps.map (·.2)).sum := by
  induction ps with
  | nil => rfl
  | cons p r ih =>
    have h1 := hp p List.mem_cons_self
    rw [ticks_cons, List.length_append, List.length_replicate, List.map_cons, List.sum_cons, ← ih fun q hq => hp q (List.mem_cons_of_mem _ hq)]
    omega
/-! where a tenth lies -/
def place : List Ph → Int → Nat × Int
  | [], r => (0, r)
  | p :: ps, r => if p.2 ≤ r then ((place ps (r - p.2)).1 + 1, (place ps (r - p.2)).2) else (0, r)
theorem place_ok : ∀ {ps : List Ph} {r : Int}, Pos ps → 0 ≤ r → r < (ps.map (·.2)).sum → (place ps r).1 < ps.length ∧ 0 ≤ (place ps r).2 ∧ (place ps r).2 < (ph ps (place ps r).1).2 ∧ ((ticks (ps.take (place ps r).1)).length : Int) + (place ps r).2 = r
  | [], r, _, h0, h => by simp at h; omega
  | p :: ps, r, hp, h0, h => by
    have h1 := hp p List.mem_cons_self
    unfold place
    by_cases c : p.2 ≤ r
    · rw [if_pos c]
      obtain ⟨a1, a2, a3, a4⟩ := place_ok (ps := ps) (r := r - p.2) (fun q hq => hp q (List.mem_cons_of_mem _ hq)) (by omega) (by simp at h; omega)
      refine ⟨by simp; omega, a2, by simpa [ph] using a3, ?_⟩
      rw [List.take_succ_cons, ticks_cons, List.length_append, List.length_replicate]
      simp only
      omega
    · rw [if_neg c]
      refine ⟨by simp, h0, by simp [ph]; omega, by simp⟩
end PH
namespace PH
open PySem PySem.Spec PyProof.Rows L2 VL PF
abbrev wh (ps : List Ph) : Int := (ps.map (·.2)).sum
def S_whole (g : List PV → R PV) : Prop := ∀ ps : List Ph, ps.length ≤ 1000000 → g [encPs ps] = .ok (.int (wh ps))
theorem sp_whole (F : Nat → List PV → R PV) : S_whole fun us => outR (b_whole_time F (startE 3 us)) := by
  intro ps hl
  have e1 : lcL (tT [tN 1, tN 2]) cYes (b_whole_time_0 F) [some (encPs ps), none, none] (ps.map encP) = .ok (ps.map fun p => PV.int p.2) := by
    refine lcL_map encP (fun p => PV.int p.2) ps fun p _ => ⟨_, rfl, ?_⟩
    simp -implicitDefEqProofs [b_whole_time_0]
  have e2 : (ps.map fun p => PV.int p.2) = (ps.map (·.2)).map PV.int := by simp
  have e3 : (ps.map encP).length ≤ sizeLine := by rw [List.length_map, szl]; omega
  have e4 : itemsP (encPs ps) = .ok (ps.map encP) := rfl
  have e5 : ((ps.map (·.2)).map PV.int).length ≤ sizeLine := by rw [List.length_map, List.length_map, szl]; omega
  simp -implicitDefEqProofs [b_whole_time, e4, e1, e2, e5, -List.map_map, -List.length_map]
theorem isPh_pos {p : Ph} (h : isPh p = true) : 1 ≤ p.2 ∧ p.2 ≤ 6000 ∧ p.1 ∈ COL := by
  unfold isPh at h
  simp only [Bool.and_eq_true, decide_eq_true_eq] at h
  exact ⟨h.2.1, h.2.2, h.1⟩
theorem Chain.pos {ps : List Ph} (c : Chain ps) : Pos ps := fun p hp => (isPh_pos (c.ok p hp)).1
theorem wh_pos : ∀ {ps : List Ph}, Pos ps → ps ≠ [] → 0 < wh ps
  | [], _, h => absurd rfl h
  | p :: r, hp, _ => by
    have h1 := hp p List.mem_cons_self
    have h2 : 0 ≤ wh r := by
      by_cases e : r = []
      · subst e; decide
      · have := wh_pos (ps := r) (fun q hq => hp q (List.mem_cons_of_mem _ hq)) e; omega
    show 0 < ((p :: r).map (·.2)).sum
    rw [List.map_cons, List.sum_cons]
    show 0 < p.2 + wh r
    omega
theorem place_cons (p : Ph) (ps : List Ph) (r : Int) : place (p :: ps) r = if p.2 ≤ r then ((place ps (r - p.2)).1 + 1, (place ps (r - p.2)).2) else (0, r) := rfl
def plV (ps : List Ph) (t : Int) : PV := .tup [.int ((place ps (t % wh ps)).1 : Int), .int (place ps (t % wh ps)).2]
def S_place (g : List PV → R PV) : Prop := ∀ (ps : List Ph) (t : Int), Pos ps → ps ≠ [] → ps.length ≤ 1000000 → g [encPs ps, .int t] = .ok (plV ps t)
theorem sp_place {F : Nat → List PV → R PV} (h1 : S_whole (F 650)) : S_place fun us => outR (b_place_at_v1 F (startE 4 us)) := by
  intro ps t hp hne hl
  have hw := wh_pos hp hne
  have loop : sWhile [] (b_place_at_v1_0 F) (b_place_at_v1_1 F) [.fz (encPs ps), .fz (.int t), .fz (.int (t % wh ps)), .fz (.int 0)] = .next [.fz (encPs ps), .fz (.int t), .fz (.int (place ps (t % wh ps)).2), .fz (.int ((place ps (t % wh ps)).1 : Int))] := by
    refine sWhile_by (Q := fun o => o = .next [.fz (encPs ps), .fz (.int t), .fz (.int (place ps (t % wh ps)).2), .fz (.int ((place ps (t % wh ps)).1 : Int))])
      (fun m r => ∃ (i : Nat) (rest : Int), r = [.fz (encPs ps), .fz (.int t), .fz (.int rest), .fz (.int (i : Int))] ∧ i + m = ps.length ∧ 0 ≤ rest ∧ rest < wh (ps.drop i) ∧ i + (place (ps.drop i) rest).1 = (place ps (t % wh ps)).1 ∧ (place (ps.drop i) rest).2 = (place ps (t % wh ps)).2)
      ?_ (m := ps.length) ⟨0, t % wh ps, rfl, by omega, Int.emod_nonneg (b := wh ps) _ (by omega), by simpa using Int.emod_lt_of_pos t hw, by simp, by simp⟩
    rintro m r ⟨i, rest, rfl, em, h0, hr, ha, hb⟩
    have hi : i < ps.length := by
      by_cases c : i < ps.length
      · exact c
      · rw [List.drop_of_length_le (by omega)] at hr
        have : wh ([] : List Ph) = 0 := rfl
        omega
    have hd : ps.drop i = ph ps i :: ps.drop (i + 1) := by
      rw [List.drop_eq_getElem_cons hi]
      congr 1
      unfold ph
      rw [List.getD_eq_getElem?_getD, List.getElem?_eq_getElem hi]
      rfl
    rw [hd] at ha hb hr
    rw [place_cons] at ha hb
    by_cases c : (ph ps i).2 ≤ rest
    · rw [if_pos c] at ha hb
      refine .inr ⟨by simp -implicitDefEqProofs [b_place_at_v1_0, encPs_ix hi, encP_ix1, c], .inl ⟨m - 1, _, by omega, .inl (by simp -implicitDefEqProofs [b_place_at_v1_1, encPs_ix hi, encP_ix1]), i + 1, rest - (ph ps i).2, rfl, by omega, by omega, ?_, ?_, hb⟩⟩
      · simp only [wh, List.map_cons, List.sum_cons] at hr ⊢
        omega
      · simp only at ha
        omega
    · rw [if_neg c] at ha hb
      refine .inl ⟨by simp -implicitDefEqProofs [b_place_at_v1_0, encPs_ix hi, encP_ix1, c], ?_⟩
      simp only at ha hb
      rw [← ha, ← hb]
      simp
  simp -implicitDefEqProofs [b_place_at_v1, h1 ps hl, hw, loop, szl, plV]
/-! turned -/
theorem cut_from {α : Type} (xs : List α) (i : Nat) : cutP xs (some (i : Int)) none = xs.drop i := by
  unfold cutP
  rw [HT.sIx_nat, HT.sIx_none]
  by_cases h : i ≤ xs.length
  · rw [Nat.min_eq_left h, List.take_of_length_le (by simp)]
  · rw [Nat.min_eq_right (by omega), List.drop_of_length_le (by omega), List.drop_of_length_le (by omega)]
    simp
theorem cut_to {α : Type} (xs : List α) (i : Nat) : cutP xs none (some (i : Int)) = xs.take i := by
  unfold cutP
  rw [HT.sIx_nat, HT.sIx_none]
  simp only [List.drop_zero, Nat.sub_zero]
  by_cases h : i ≤ xs.length
  · rw [Nat.min_eq_left h]
  · rw [Nat.min_eq_right (by omega), List.take_of_length_le (by omega), List.take_of_length_le (by omega)]
def turned (ps : List Ph) (t : Int) : List Ph :=
  if ps.length = 1 then ps else
  let a := (place ps (t % wh ps)).1
  let r := (place ps (t % wh ps)).2
  if r = 0 then ps.drop a ++ ps.take a else [((ph ps a).1, (ph ps a).2 - r)] ++ ps.drop (a + 1) ++ ps.take a ++ [((ph ps a).1, r)]
theorem slP_from (ps : List Ph) (i : Nat) : slP (encPs ps) (some (i : Int)) none = some (encPs (ps.drop i)) := by
  show some (PV.lst (cutP (ps.map encP) _ _)) = _
  rw [cut_from, ← List.map_drop]
  rfl
theorem slP_to (ps : List Ph) (i : Nat) : slP (encPs ps) none (some (i : Int)) = some (encPs (ps.take i)) := by
  show some (PV.lst (cutP (ps.map encP) _ _)) = _
  rw [cut_to, ← List.map_take]
  rfl
theorem addP_ps {a b : List Ph} (h : a.length + b.length ≤ 16777216) : addP (encPs a) (encPs b) = some (encPs (a ++ b)) := by
  show (if (a.map encP).length + (b.map encP).length ≤ sizeLine then some (PV.lst (a.map encP ++ b.map encP)) else none) = _
  rw [if_pos (by rw [szl]; simpa using h), ← List.map_append]
  rfl
theorem enc_one (c : Str) (t : Int) : PV.lst [PV.tup [.str c, .int t]] = encPs [(c, t)] := rfl
theorem listP_ps (ps : List Ph) : listP [encPs ps] = some (encPs ps) := rfl
theorem tT_encP (i j : Nat) (p : Ph) : tT [tN i, tN j] (encP p) = some [(i, .str p.1), (j, .int p.2)] := rfl
theorem tT_plV (i j : Nat) (ps t) : tT [tN i, tN j] (plV ps t) = some [(i, .int ((place ps (t % wh ps)).1 : Int)), (j, .int (place ps (t % wh ps)).2)] := rfl
end PH
namespace PH
open PySem PySem.Spec PyProof.Rows L2 VL PF
theorem mp1 : addP c_MOST_PHASES (.int 1) = some (.int 61) := rfl
def S_loose (g : List PV → R PV) : Prop := ∀ ps : List Ph, Chain ps → ps.length ≤ 60 → g [encPs ps] = .ok .non
theorem sp_loose {F : Nat → List PV → R PV} (h1 : S_first_fault (F 312)) : S_loose fun us => outR (b_check_loose F (startE 3 us)) := by
  intro ps c hl
  have e1 : F 312 [encPs ps, c_MOST_PHASES] = .ok .non := by
    have := h1 ps 60 (by omega) (by decide)
    rw [ff_good c hl] at this
    exact this
  have e2 : ¬ (ps.length : Int) = 61 := by omega
  simp -implicitDefEqProofs [b_check_loose, encPs_len, mp1, e2, e1]
/-! joined -/
def S_joinedA (g : List PV → R PV) : Prop := ∀ ps : List Ph, ps ≠ [] → (1 < ps.length → (ph ps 0).1 ≠ (ph ps (ps.length - 1)).1) → g [encPs ps] = .ok (encPs ps)
def S_joinedB (g : List PV → R PV) : Prop := ∀ (p q : Ph) (mid : List Ph), mid ≠ [] → p.1 = q.1 → mid.length ≤ 1000000 → g [encPs (p :: (mid ++ [q]))] = .ok (encPs (mid ++ [(p.1, q.2 + p.2)]))
theorem encPs_last {ps : List Ph} (h : ps ≠ []) : ixP (encPs ps) (.int (-1)) = some (encP (ph ps (ps.length - 1))) := by
  rw [encPs_ixN h, getLast_ph]
theorem encPs_first {ps : List Ph} (h : ps ≠ []) : ixP (encPs ps) (.int 0) = some (encP (ph ps 0)) := by
  cases ps with
  | nil => exact absurd rfl h
  | cons p r => exact encPs_ix0
theorem sp_joinedA (F : Nat → List PV → R PV) : S_joinedA fun us => outR (b_joined F (startE 1 us)) := by
  intro ps hne h
  by_cases c : 1 < ps.length
  · have c' : (1 : Int) < ps.length := by omega
    have := h c
    simp -implicitDefEqProofs [b_joined, encPs_len, c', encPs_first hne, encPs_last hne, encP_ix0, this, listP_ps]
  · have c' : ¬ (1 : Int) < ps.length := by omega
    simp -implicitDefEqProofs [b_joined, encPs_len, c', listP_ps]
theorem cut_mid {α : Type} (p q : α) (mid : List α) : cutP (p :: (mid ++ [q])) (some 1) (some (-1)) = mid := by
  unfold cutP
  have e1 : HT.sIx (p :: (mid ++ [q])).length 0 (some 1) = 1 := by
    show HT.sIx _ 0 (some ((1 : Nat) : Int)) = 1
    rw [HT.sIx_nat]
    simp
  have e2 : HT.sIx (p :: (mid ++ [q])).length (p :: (mid ++ [q])).length (some (-1)) = mid.length + 1 := by
    unfold HT.sIx
    simp only
    rw [if_pos (by decide)]
    simp
    omega
  rw [e1, e2]
  simp
theorem sp_joinedB (F : Nat → List PV → R PV) : S_joinedB fun us => outR (b_joined F (startE 1 us)) := by
  intro p q mid hne e hl
  have hm := List.length_pos_iff.mpr hne
  have hps : (p :: (mid ++ [q])) ≠ [] := by simp
  have hlen : (p :: (mid ++ [q])).length = mid.length + 2 := by simp
  have c1 : (1 : Int) < ((p :: (mid ++ [q])).length : Int) := by omega
  have c2 : ¬ ((p :: (mid ++ [q])).length : Int) = 2 := by omega
  have f1 : ixP (encPs (p :: (mid ++ [q]))) (.int 0) = some (encP p) := encPs_ix0
  have f2 : ixP (encPs (p :: (mid ++ [q]))) (.int (-1)) = some (encP q) := by
    rw [encPs_ixN hps]
    have e5 : (p :: (mid ++ [q])).getLast hps = q := by
      have := List.getLast?_concat (l := p :: mid) (a := q)
      rw [List.getLast?_eq_some_getLast (by simp)] at this
      exact Option.some.inj this
    rw [e5]
  have f3 : slP (encPs (p :: (mid ++ [q]))) (some 1) (some (-1)) = some (encPs mid) := by
    show some (PV.lst (cutP ((p :: (mid ++ [q])).map encP) _ _)) = _
    rw [List.map_cons, List.map_append, List.map_singleton, cut_mid]
    rfl
  have f4 : addP (encPs mid) (encPs [(p.1, q.2 + p.2)]) = some (encPs (mid ++ [(p.1, q.2 + p.2)])) := addP_ps (by simp; omega)
  generalize p :: (mid ++ [q]) = ps at *
  rw [e] at f4 ⊢
  simp -implicitDefEqProofs [b_joined, encPs_len, c1, c2, f1, f2, f3, encP_ix0, encP_ix1, e, szl, enc_one, f4]
/-! shortest -/
theorem find_loopO {s : VL.Env → Out} {p : Nat → Bool} {v : Nat → PV} {tgt n : Nat} {lo : Int} {I : VL.Env → Prop} {r : VL.Env} (h0 : I r) (turn : ∀ i r, i < n → I r → ∃ r', I r' ∧ s (r.set tgt (.fz (.int (lo + (i : Int))))) = if p i = true then .ret (v i) else .next r') :
    (∃ r', forL (tN tgt) s (rangeP lo n) r = .next r' ∧ I r' ∧ (List.range n).find? p = none) ∨ ∃ k : Nat, forL (tN tgt) s (rangeP lo n) r = .ret (v k) ∧ (List.range n).find? p = some k := by
  refine forL_by (Q := fun o => (∃ r', o = .next r' ∧ I r' ∧ (List.range n).find? p = none) ∨ ∃ k : Nat, o = .ret (v k) ∧ (List.range n).find? p = some k) (fun i r => I r ∧ ∀ j < i, p j = false) ⟨h0, fun j hj => by omega⟩ (fun i w r hv hi => ?_) (fun r hr => ?_)
  · obtain ⟨hi1, rfl⟩ := rangeP_get hv
    obtain ⟨hI, hno⟩ := hi
    obtain ⟨r', hI', e⟩ := turn i r hi1 hI
    refine ⟨_, rfl, ?_⟩
    have e2 : setS [(tgt, PV.int (lo + (i : Int)))] r = r.set tgt (.fz (.int (lo + (i : Int)))) := by simp
    rw [e2, e]
    by_cases hb : p i = true
    · refine .inr (.inr (.inl ⟨v i, by rw [if_pos hb], .inr ⟨i, rfl, ?_⟩⟩))
      rw [List.find?_range_eq_some]
      exact ⟨hb, by simpa using hi1, fun j hj => by simp [hno j hj]⟩
    · refine .inl ⟨r', .inl (by rw [if_neg hb]), hI', fun j hj => ?_⟩
      by_cases hji : j = i
      · subst hji; simpa using hb
      · exact hno j (by omega)
  · refine .inl ⟨r, rfl, hr.1, ?_⟩
    rw [List.find?_range_eq_none]
    intro j hj
    have := hr.2 j (by simpa using hj)
    simp [this]
theorem mulP_rep {a : List PV} {k : Nat} (hk : k ≤ 1000000) (h : a.length * k ≤ 16777216) : mulP (.lst a) (.int (k : Int)) = some (.lst (List.replicate k a).flatten) := by
  rw [mulP_l, if_pos ⟨by omega, by omega, by rw [szl]; simpa using h⟩]
  rfl
theorem mulP_ps {a : List Ph} {k : Nat} (hk : k ≤ 1000000) (h : a.length * k ≤ 16777216) : mulP (encPs a) (.int (k : Int)) = some (encPs (List.replicate k a).flatten) := by
  unfold encPs
  rw [mulP_rep hk (by simpa using h), List.map_flatten, List.map_replicate]
theorem okS_col {c : Str} (h : c ∈ COL) : okS c = true := by
  simp only [COL, List.mem_cons, List.not_mem_nil, or_false] at h
  rcases h with h | h | h | h | h <;> (subst h; decide +kernel)
theorem tm_ps {n : Nat} {ps : List Ph} (h : ∀ p ∈ ps, okS p.1 = true) : PV.tm (n + 2) (encPs ps) = true := by
  unfold encPs
  rw [tm_l, tms_iff]
  intro x hx
  obtain ⟨p, hp, rfl⟩ := List.mem_map.mp hx
  simp [encP, h p hp]
theorem eqv_ph (a b : Ph) : PV.eqv (encP a) (encP b) = decide (a = b) := by
  unfold encP
  rw [eqv_tt]
  obtain ⟨a1, a2⟩ := a
  obtain ⟨b1, b2⟩ := b
  show PyData.eqvAll [.str a1, .int a2] [.str b1, .int b2] = _
  rw [Bool.eq_iff_iff]
  simp [PyData.eqvAll, PyData.eqv]
theorem eqv_ps {a b : List Ph} (ha : ∀ p ∈ a, okS p.1 = true) (hb : ∀ p ∈ b, okS p.1 = true) : PV.eqv (encPs a) (encPs b) = decide (a = b) := by
  unfold encPs
  rw [eqv_ll]
  exact eqvs_map (n := 5) (fun _ _ => trivial) eqv_ph (fun p hp => by simp [encP, ha p hp]) (fun p hp => by simp [encP, hb p hp])
theorem eqB_ps {a b : List Ph} (ha : ∀ p ∈ a, okS p.1 = true) (hb : ∀ p ∈ b, okS p.1 = true) : eqB (encPs a) (encPs b) = some (decide (a = b)) := by
  rw [eqB_tm (tm_ps (n := 62) ha) (tm_ps (n := 62) hb), eqv_ps ha hb]
def perB (ps : List Ph) (i : Nat) : Bool := decide (ps.length % (i + 1) = 0) && decide ((List.replicate (ps.length / (i + 1)) (ps.take (i + 1))).flatten = ps)
def shortP (ps : List Ph) : List Ph := match (List.range (ps.length - 1)).find? (perB ps) with
  | some i => ps.take (i + 1)
  | none => ps
def S_shortest (g : List PV → R PV) : Prop := ∀ ps : List Ph, (∀ p ∈ ps, okS p.1 = true) → ps ≠ [] → ps.length ≤ 1000 → g [encPs ps] = .ok (encPs (shortP ps))
theorem sp_shortest (F : Nat → List PV → R PV) : S_shortest fun us => outR (b_shortest F (startE 3 us)) := by
  intro ps hok hne hl
  have hpos := List.length_pos_iff.mpr hne
  have hr : rg2 1 (ps.length : Int) = .ok (rangeP 1 (ps.length - 1)) := rg2_nat (i := 1) (by decide) (by omega)
  have T := find_loopO (s := b_shortest_0 F) (p := perB ps) (v := fun i => encPs (ps.take (i + 1))) (tgt := 2) (n := ps.length - 1) (lo := 1) (I := fun r => ∃ x, r = [.fz (encPs ps), .fz (.int (ps.length : Int)), x]) (r := [.fz (encPs ps), .fz (.int (ps.length : Int)), .no]) ⟨_, rfl⟩ (fun i r hi ⟨x, e⟩ => by
    subst e
    refine ⟨_, ⟨.fz (.int (1 + (i : Int))), rfl⟩, ?_⟩
    have ec : (1 : Int) + (i : Int) = ((i + 1 : Nat) : Int) := by omega
    rw [ec]
    unfold perB
    generalize hc : i + 1 = c at *
    have c0 : 0 < c := by omega
    have hd : ps.length / c ≤ 1000 := Nat.le_trans (Nat.div_le_self _ _) hl
    have hm : (ps.take c).length * (ps.length / c) ≤ 16777216 := by
      rw [List.length_take]
      have : min c ps.length * (ps.length / c) ≤ 1000 * 1000 := Nat.mul_le_mul (by omega) hd
      omega
    have hok2 : ∀ p ∈ (List.replicate (ps.length / c) (ps.take c)).flatten, okS p.1 = true := fun p hp => by
      rw [List.mem_flatten] at hp
      obtain ⟨l, hl1, hl2⟩ := hp
      rw [List.mem_replicate] at hl1
      rw [hl1.2] at hl2
      exact hok p (List.mem_of_mem_take hl2)
    have hbg : (c : Int) < bigI := bigI_of (by omega)
    have em : (ps.length : Int) % (c : Int) = ((ps.length % c : Nat) : Int) := rfl
    have ed : mulP (encPs (ps.take c)) (.int ((ps.length : Int) / (c : Int))) = some (encPs (List.replicate (ps.length / c) (ps.take c)).flatten) := mulP_ps (by omega : ps.length / c ≤ 1000000) hm
    by_cases c1 : ps.length % c = 0
    · have c1' : (ps.length : Int) % (c : Int) = 0 := by rw [em, c1]; rfl
      simp -implicitDefEqProofs [b_shortest_0, c0, hbg, c1, c1', slP_to, ed, eqB_ps hok2 hok]
    · have c1' : ¬ (ps.length : Int) % (c : Int) = 0 := by rw [em]; omega
      simp -implicitDefEqProofs [b_shortest_0, c0, c1, c1'])
  unfold shortP
  rcases T with ⟨r', e1, ⟨x, rfl⟩, e2⟩ | ⟨k, e1, e2⟩
  · simp -implicitDefEqProofs [b_shortest, encPs_len, hr, e1, e2, listP_ps]
  · simp -implicitDefEqProofs [b_shortest, encPs_len, hr, e1, e2]
theorem Chain.oks {ps : List Ph} (c : Chain ps) : ∀ p ∈ ps, okS p.1 = true := fun p hp => okS_col (isPh_pos (c.ok p hp)).2.2
end PH
namespace PH
open PySem PySem.Spec PyProof.Rows L2 VL PF
def encR (row : List Str) : PV := .lst (row.map .str)
def S_ticks (g : List PV → R PV) : Prop := ∀ ps : List Ph, Pos ps → wh ps ≤ 1000000 → g [encPs ps] = .ok (encR (ticks ps))
theorem map_get {α : Type} {f : α → PV} {xs : List α} {i : Nat} {v : PV} (h : (xs.map f)[i]? = some v) : ∃ x, xs[i]? = some x ∧ v = f x := by
  rw [List.getElem?_map] at h
  cases e : xs[i]? with
  | none => rw [e] at h; cases h
  | some x => rw [e] at h; cases h; exact ⟨x, rfl, rfl⟩
theorem take_succ' {α : Type} {xs : List α} {i : Nat} {x : α} (h : xs[i]? = some x) : xs.take (i + 1) = xs.take i ++ [x] := by
  rw [List.take_add_one, h]
  rfl
theorem wh_take {ps : List Ph} (hp : Pos ps) (i : Nat) : wh (ps.take i) ≤ wh ps := by
  have e : wh ps = wh (ps.take i) + wh (ps.drop i) := by
    conv => lhs; rw [← List.take_append_drop i ps]
    show (((ps.take i) ++ (ps.drop i)).map (·.2)).sum = _
    rw [List.map_append, List.sum_append]
  have h2 : 0 ≤ wh (ps.drop i) := by
    by_cases c : ps.drop i = []
    · rw [c]; decide
    · exact Int.le_of_lt (wh_pos (fun p hp' => hp p (List.mem_of_mem_drop hp')) c)
  omega
theorem sp_ticks (F : Nat → List PV → R PV) : S_ticks fun us => outR (b__law_ticks F (startE 3 us)) := by
  intro ps hp hw
  have T : ∃ x, forL (tN 2) (b__law_ticks_0 F) (ps.map encP) [.fz (encPs ps), .fz (.lst []), .no] = .next [.fz (encPs ps), .fz (encR (ticks ps)), x] := by
    refine forL_by (Q := fun o => ∃ x, o = .next [.fz (encPs ps), .fz (encR (ticks ps)), x]) (fun i r => ∃ x, r = [.fz (encPs ps), .fz (encR (ticks (ps.take i))), x]) ⟨.no, rfl⟩ (fun i v r hv hi => ?_) (fun r hr => ?_)
    · obtain ⟨p, hp1, rfl⟩ := map_get hv
      obtain ⟨x, rfl⟩ := hi
      have hpm : p ∈ ps := List.mem_of_getElem? hp1
      have hp2 := hp p hpm
      have hpt : Pos (ps.take i) := fun q hq => hp q (List.mem_of_mem_take hq)
      have hpt2 : Pos (ps.take (i + 1)) := fun q hq => hp q (List.mem_of_mem_take hq)
      have w1 := wh_take hp (i + 1)
      have w2 := ticks_len hpt2
      rw [take_succ' hp1, ticks_app] at w2
      have w3 : (((ps.take i ++ [p]).map (·.2)).sum : Int) = wh (ps.take (i + 1)) := by rw [take_succ' hp1]
      simp only [ticks_cons, ticks_nil, List.append_nil, List.length_append, List.length_replicate] at w2
      have w4 : (ticks (ps.take i)).length + p.2.toNat ≤ 1000000 := by omega
      refine ⟨_, rfl, .inl ⟨[.fz (encPs ps), .fz (encR (ticks (ps.take (i + 1)))), .fz (encP p)], .inl ?_, _, rfl⟩⟩
      have m1 : mulP (.lst [.str p.1]) (.int p.2) = some (encR (List.replicate p.2.toNat p.1)) := by
        rw [mulP_l, if_pos ⟨by omega, by omega, by rw [szl]; simp; omega⟩]
        unfold encR
        congr 2
        generalize p.2.toNat = n
        induction n with
        | zero => rfl
        | succ n ih => rw [List.replicate_succ, List.replicate_succ, List.flatten_cons, ih]; rfl
      have m2 : addP (encR (ticks (ps.take i))) (encR (List.replicate p.2.toNat p.1)) = some (encR (ticks (ps.take (i + 1)))) := by
        unfold encR
        rw [addP_l, if_pos (by rw [szl]; simp; omega), take_succ' hp1, ticks_app, List.map_append]
        simp
      simp -implicitDefEqProofs [b__law_ticks_0, encP_ix0, encP_ix1, m1, m2, szl]
    · obtain ⟨x, rfl⟩ := hr
      refine ⟨x, ?_⟩
      rw [List.length_map, List.take_length]
  obtain ⟨x, e⟩ := T
  have e4 : itemsP (encPs ps) = .ok (ps.map encP) := rfl
  simp -implicitDefEqProofs [b__law_ticks, e4, e, szl]
theorem nol_encP (p : Ph) : PV.nol (encP p) = true := by simp [encP]
def S_runs (g : List PV → R PV) : Prop := ∀ row : List Str, row.length ≤ 1000000 → g [encR row] = .ok (encPs (runs row))
theorem runs_len (row : List Str) : (runs row).length ≤ row.length := by
  have go : ∀ (row : List Str) (acc : List Ph), (row.foldl runStep acc).length ≤ acc.length + row.length := by
    intro row
    induction row with
    | nil => intro acc; simp
    | cons c row ih =>
      intro acc
      have h1 : (runStep acc c).length ≤ acc.length + 1 := by
        unfold runStep
        cases hl : acc.getLast? with
        | none => simp
        | some l =>
          have : acc ≠ [] := by intro e; subst e; simp at hl
          have := List.length_pos_iff.mpr this
          simp only
          split <;> simp <;> omega
      have := ih (runStep acc c)
      rw [List.foldl_cons, List.length_cons]
      omega
  have := go row []
  show (row.foldl runStep []).length ≤ _
  simpa using this
theorem runs_turn (F : Nat → List PV → R PV) {row : List Str} {acc : List Ph} {c : Str} (hl : acc.length ≤ 1000000) :
    b__law_runs_0 F [.fz (encR row), .own (acc.map encP), .fz (.str c)] = .next [.fz (encR row), .own ((runStep acc c).map encP), .fz (.str c)] := by
  unfold runStep
  by_cases hne : acc = []
  · subst hne
    simp -implicitDefEqProofs [b__law_runs_0, szl, encP]
  · obtain ⟨init, l, rfl⟩ : ∃ init l, acc = init ++ [l] := ⟨acc.dropLast, acc.getLast hne, (List.dropLast_concat_getLast hne).symm⟩
    have hlen : (init ++ [l]).length = init.length + 1 := by simp
    have hix : atI ((init ++ [l]).map encP) (init.length : Int) = some (encP l) := by
      rw [atI_map, atI_nat' (by simp)]
      simp
    rw [List.getLast?_concat]
    simp only
    have hN : ixN (init.length + 1) (init.length : Int) = some init.length := by
      unfold ixN
      rw [if_pos (by omega), if_pos (by omega)]
      rfl
    rw [List.map_append, List.map_singleton] at hix
    have hq : ((init.length : Int) + 1 - 1) = (init.length : Int) := by omega
    by_cases hc : l.1 = c
    · rw [if_pos hc]
      simp -implicitDefEqProofs [b__law_runs_0, hix, encP_ix0, encP_ix1, hc, hN, szl, hq, nol_encP]
      simp [encP, List.set_append]
    · rw [if_neg hc]
      have hlt : init.length + 1 < 16777216 := by omega
      simp -implicitDefEqProofs [b__law_runs_0, hix, encP_ix0, hc, szl, hlt, hq, nol_encP]
      simp [encP]
theorem sp_runs (F : Nat → List PV → R PV) : S_runs fun us => outR (b__law_runs F (startE 3 us)) := by
  intro row hl
  have T : ∃ x, forL (tN 2) (b__law_runs_0 F) (row.map .str) [.fz (encR row), .own [], .no] = .next [.fz (encR row), .own ((runs row).map encP), x] := by
    refine forL_by (Q := fun o => ∃ x, o = .next [.fz (encR row), .own ((runs row).map encP), x]) (fun i r => ∃ x, r = [.fz (encR row), .own ((runs (row.take i)).map encP), x]) ⟨.no, rfl⟩ (fun i v r hv hi => ?_) (fun r hr => ?_)
    · obtain ⟨c, hc1, rfl⟩ := map_get hv
      obtain ⟨x, rfl⟩ := hi
      refine ⟨_, rfl, .inl ⟨[.fz (encR row), .own ((runStep (runs (row.take i)) c).map encP), .fz (.str c)], .inl ?_, .fz (.str c), ?_⟩⟩
      · have hl2 := runs_len (row.take i)
        rw [List.length_take] at hl2
        have := runs_turn F (row := row) (acc := runs (row.take i)) (c := c) (by omega)
        rw [← this]
        simp -implicitDefEqProofs
      · rw [take_succ' hc1]
        unfold runs
        rw [List.foldl_append]
        rfl
    · obtain ⟨x, rfl⟩ := hr
      refine ⟨x, ?_⟩
      rw [List.length_map, List.take_length]
  obtain ⟨x, e⟩ := T
  have e4 : itemsP (encR row) = .ok (row.map .str) := rfl
  simp -implicitDefEqProofs [b__law_runs, e4, e, szl, encPs]
end PH
namespace PH
open PySem PySem.Spec PyProof.Rows L2 VL PF
/-! ### _law_least -/
theorem tm_R {n : Nat} {row : List Str} (h : ∀ c ∈ row, okS c = true) : PV.tm (n + 1) (encR row) = true := by
  unfold encR
  rw [tm_l, tms_iff]
  intro x hx
  obtain ⟨p, hp, rfl⟩ := List.mem_map.mp hx
  rw [tm_s, h p hp]
theorem eqv_R {a b : List Str} (ha : ∀ p ∈ a, okS p = true) (hb : ∀ p ∈ b, okS p = true) : PV.eqv (encR a) (encR b) = decide (a = b) := by
  unfold encR
  rw [eqv_ll]
  exact eqvs_map (n := 5) (fun _ _ => trivial) eqv_ss (fun p hp => by rw [tm_s, ha p hp]) (fun p hp => by rw [tm_s, hb p hp])
theorem eqB_R {a b : List Str} (ha : ∀ p ∈ a, okS p = true) (hb : ∀ p ∈ b, okS p = true) : eqB (encR a) (encR b) = some (decide (a = b)) := by
  rw [eqB_tm (tm_R (n := 63) ha) (tm_R (n := 63) hb), eqv_R ha hb]
theorem lenP_R (row : List Str) : lenP [encR row] = some (.int row.length) := by
  show some (PV.int ((row.map PV.str).length : Int)) = _
  rw [List.length_map]
theorem slP_toR (ps : List Str) (i : Nat) : slP (encR ps) none (some (i : Int)) = some (encR (ps.take i)) := by
  show some (PV.lst (cutP (ps.map PV.str) _ _)) = _
  rw [cut_to, ← List.map_take]
  rfl
theorem slP_fromR (ps : List Str) (i : Nat) : slP (encR ps) (some (i : Int)) none = some (encR (ps.drop i)) := by
  show some (PV.lst (cutP (ps.map PV.str) _ _)) = _
  rw [cut_from, ← List.map_drop]
  rfl
theorem addP_R {a b : List Str} (h : a.length + b.length ≤ 16777216) : addP (encR a) (encR b) = some (encR (a ++ b)) := by
  show (if (a.map PV.str).length + (b.map PV.str).length ≤ sizeLine then some (PV.lst (a.map PV.str ++ b.map PV.str)) else none) = _
  rw [if_pos (by rw [szl]; simpa using h), ← List.map_append]
  rfl
theorem mulP_R {a : List Str} {k : Nat} (hk : k ≤ 1000000) (h : a.length * k ≤ 16777216) : mulP (encR a) (.int (k : Int)) = some (encR (List.replicate k a).flatten) := by
  unfold encR
  rw [mulP_rep hk (by simpa using h), List.map_flatten, List.map_replicate]
def perR (row : List Str) (i : Nat) : Bool := decide (row.length / (i + 1) * (i + 1) = row.length) && decide (row = (List.replicate (row.length / (i + 1)) (row.take (i + 1))).flatten)
def leastN (row : List Str) : Nat := match (List.range row.length).find? (perR row) with
  | some i => i + 1
  | none => row.length
theorem ticks_mem {ps : List Ph} {c : Str} (h : c ∈ ticks ps) : ∃ p ∈ ps, p.1 = c := by
  unfold ticks at h
  rw [List.mem_flatMap] at h
  obtain ⟨p, hp, hc⟩ := h
  exact ⟨p, hp, (List.mem_replicate.mp hc).2.symm⟩
def S_leastL (g : List PV → R PV) : Prop := ∀ ps : List Ph, Pos ps → (∀ p ∈ ps, okS p.1 = true) → wh ps ≤ 1000 → g [encPs ps] = .ok (.int (leastN (ticks ps) : Int))
theorem sp_leastL {F : Nat → List PV → R PV} (h1 : S_ticks (F 128)) : S_leastL fun us => outR (b__law_least F (startE 3 us)) := by
  intro ps hp hok hw
  have e0 := h1 ps hp (by omega)
  have hlen := ticks_len hp
  have hokR : ∀ c ∈ ticks ps, okS c = true := fun c hc => by
    obtain ⟨p, hp, rfl⟩ := ticks_mem hc
    exact hok p hp
  have hl : (ticks ps).length ≤ 1000 := by
    show _
    have : ((ticks ps).length : Int) = wh ps := hlen
    omega
  generalize ticks ps = row at *
  have hr : rg2 1 ((row.length : Int) + 1) = .ok (rangeP 1 row.length) := by
    have := rg2_nat (i := 1) (n := row.length + 1) (by decide) (by omega)
    simpa using this
  have T := find_loopO (s := b__law_least_0 F) (p := perR row) (v := fun i => .int (1 + (i : Int))) (tgt := 2) (n := row.length) (lo := 1) (I := fun r => ∃ x, r = [.fz (encPs ps), .fz (encR row), x]) (r := [.fz (encPs ps), .fz (encR row), .no]) ⟨_, rfl⟩ (fun i r hi ⟨x, e⟩ => by
    subst e
    refine ⟨_, ⟨.fz (.int (1 + (i : Int))), rfl⟩, ?_⟩
    have ec : (1 : Int) + (i : Int) = ((i + 1 : Nat) : Int) := by omega
    rw [ec]
    unfold perR
    generalize hc : i + 1 = c at *
    have c0 : 0 < c := by omega
    have hd : row.length / c ≤ 1000 := Nat.le_trans (Nat.div_le_self _ _) hl
    have hm : (row.take c).length * (row.length / c) ≤ 16777216 := by
      rw [List.length_take]
      have : min c row.length * (row.length / c) ≤ 1000 * 1000 := Nat.mul_le_mul (by omega) hd
      omega
    have hok2 : ∀ p ∈ (List.replicate (row.length / c) (row.take c)).flatten, okS p = true := fun p hp => by
      rw [List.mem_flatten] at hp
      obtain ⟨l, hl1, hl2⟩ := hp
      rw [List.mem_replicate] at hl1
      rw [hl1.2] at hl2
      exact hokR p (List.mem_of_mem_take hl2)
    have hbg : (c : Int) < bigI := bigI_of (by omega)
    have hmk : mulOk ((row.length : Int) / (c : Int)) (c : Int) = true := mulOk_r ⟨by omega, by omega⟩
    have ed : mulP (encR (row.take c)) (.int ((row.length : Int) / (c : Int))) = some (encR (List.replicate (row.length / c) (row.take c)).flatten) := mulP_R (by omega : row.length / c ≤ 1000000) hm
    have em : (row.length : Int) / (c : Int) * (c : Int) = ((row.length / c * c : Nat) : Int) := by
      rw [Int.natCast_mul]; rfl
    by_cases c1 : row.length / c * c = row.length
    · have c1' : (row.length : Int) / (c : Int) * (c : Int) = (row.length : Int) := by rw [em, c1]
      simp -implicitDefEqProofs [b__law_least_0, c0, hbg, c1, c1', slP_toR, ed, lenP_R, hmk, eqB_R hokR hok2]
    · have c1' : ¬ (row.length : Int) / (c : Int) * (c : Int) = (row.length : Int) := by rw [em]; omega
      simp -implicitDefEqProofs [b__law_least_0, c0, hbg, c1, c1', lenP_R, hmk])
  unfold leastN
  rcases T with ⟨r', e1, ⟨x, rfl⟩, e2⟩ | ⟨k, e1, e2⟩
  · simp -implicitDefEqProofs [b__law_least, e0, lenP_R, hr, e1, e2]
  · have : (1 : Int) + (k : Int) = (k : Int) + 1 := by omega
    simp -implicitDefEqProofs [b__law_least, e0, lenP_R, hr, e1, e2, this]
/-! ### _law_phases -/
def colP : PV := .lst [.str "white", .str "red", .str "green", .str "yellow", .str "dark"]
theorem w8_at {e : Int} (h0 : 0 ≤ e) (h : e < 8) : ∃ c ∈ COL, atI [PV.str "white", .str "white", .str "red", .str "green", .str "yellow", .str "white", .str "red", .str "white"] e = some (.str c) := by
  obtain ⟨n, rfl⟩ := Int.eq_ofNat_of_zero_le h0
  have : n < 8 := by omega
  rcases n with _ | _ | _ | _ | _ | _ | _ | _ | n
  · exact ⟨"white", by decide +kernel, rfl⟩
  · exact ⟨"white", by decide +kernel, rfl⟩
  · exact ⟨"red", by decide +kernel, rfl⟩
  · exact ⟨"green", by decide +kernel, rfl⟩
  · exact ⟨"yellow", by decide +kernel, rfl⟩
  · exact ⟨"white", by decide +kernel, rfl⟩
  · exact ⟨"red", by decide +kernel, rfl⟩
  · exact ⟨"white", by decide +kernel, rfl⟩
  · omega
theorem next_col {c : Str} (h : c ∈ COL) : ∃ c' ∈ COL, c' ≠ c ∧ ∃ j : Int, idxO [.str "white", .str "red", .str "green", .str "yellow", .str "dark"] (.str c) = some (.int j) ∧ atI [PV.str "white", .str "red", .str "green", .str "yellow", .str "dark"] ((j + 1) % 4) = some (.str c') := by
  simp only [COL, List.mem_cons, List.not_mem_nil, or_false] at h
  rcases h with h | h | h | h | h <;> subst h
  · exact ⟨"red", by decide +kernel, by decide +kernel, 0, by rfl, by rfl⟩
  · exact ⟨"green", by decide +kernel, by decide +kernel, 1, by rfl, by rfl⟩
  · exact ⟨"yellow", by decide +kernel, by decide +kernel, 2, by rfl, by rfl⟩
  · exact ⟨"white", by decide +kernel, by decide +kernel, 3, by rfl, by rfl⟩
  · exact ⟨"red", by decide +kernel, by decide +kernel, 4, by rfl, by rfl⟩
structure LP (longest : Int) (acc : List Ph) : Prop where
  col : ∀ p ∈ acc, p.1 ∈ COL ∧ 1 ≤ p.2 ∧ p.2 ≤ longest
  adj : Adj acc
/-- the end of a turn: not the same colour twice, and the phase is told -/
noncomputable def tailS : VL.Env → Out := sSeq (sIf [false, false, false, false, false, false, true] (cAnd (eTst (e2 gtP (eCB lenP [eVar 6]) (eC (.int 0)))) (eTst (e2 eqP (e2 ixP (e2 ixP (eVar 6) (e2 subP (eCB lenP [eVar 6]) (eC (.int 1)))) (eC (.int 0))) (eVar 9)))) (sSet 9 [] (e2 ixP (eVar 5) (e2 modP (eCB intP [e2 addP (eIdxL (eVar 5) (eVar 9)) (eC (.int 1))]) (eC (.int 4))))) (sPass))
  (sMet 6 mApp [] [eArgs gTupV [eVar 9, e2 addP (eC (.int 1)) (e2 ixP (eVar 8) (eC (.int 1)))]])
theorem LP.app {longest : Int} {acc : List Ph} {c : Str} {t : Int} (h : LP longest acc) (hc : c ∈ COL) (h1 : 1 ≤ t) (h2 : t ≤ longest) (hl : lastC acc ≠ some c) : LP longest (acc ++ [(c, t)]) := by
  refine ⟨fun p hp => ?_, ?_⟩
  · rcases List.mem_append.mp hp with hp | hp
    · exact h.col p hp
    · simp at hp; subst hp; exact ⟨hc, h1, h2⟩
  · rw [adj_app]
    exact ⟨h.adj, trivial, .inr (.inr (by simpa [hd] using hl))⟩
theorem tail_turn {c most longest n k : Int} {d : PV} {row : List Int} {acc : List Ph} {col : Str} {s10 : Sl} (hL : LP longest acc) (hn : acc.length ≤ 1000) (hc : col ∈ COL) (hx1 : atI (row.map PV.int) 1 = some (.int (nth row 1))) (h0 : 0 ≤ nth row 1) (h1 : nth row 1 < longest) :
    ∃ (acc' : List Ph) (a8 a9 : Sl), LP longest acc' ∧ acc'.length = acc.length + 1 ∧ tailS [.fz (.int c), .fz (.int most), .fz (.int longest), .fz d, .fz (.int n), .fz colP, .own (acc.map encP), .fz (.int k), .fz (.lst (row.map .int)), .fz (.str col), s10] =
      .next [.fz (.int c), .fz (.int most), .fz (.int longest), .fz d, .fz (.int n), .fz colP, .own (acc'.map encP), .fz (.int k), a8, a9, s10] := by
  have hlt : acc.length < 16777216 := by omega
  by_cases hne : acc = []
  · subst hne
    refine ⟨[(col, 1 + nth row 1)], .fz (.lst (row.map .int)), .fz (.str col), LP.app (acc := []) hL hc (by omega) (by omega) (by simp [lastC]), rfl, ?_⟩
    simp -implicitDefEqProofs [tailS, hx1, szl, encP]
  · obtain ⟨init, l, rfl⟩ : ∃ init l, acc = init ++ [l] := ⟨acc.dropLast, acc.getLast hne, (List.dropLast_concat_getLast hne).symm⟩
    have hix : atI ((init ++ [l]).map encP) (init.length : Int) = some (encP l) := by
      rw [atI_map, atI_nat' (by simp)]
      simp
    rw [List.map_append, List.map_singleton] at hix
    have hq : ((init.length : Int) + 1 - 1) = (init.length : Int) := by omega
    have hlt2 : init.length + 1 < 16777216 := by simpa using hlt
    by_cases hcl : l.1 = col
    · obtain ⟨c', hc', hne', j, hj1, hj2⟩ := next_col hc
      refine ⟨init ++ [l] ++ [(c', 1 + nth row 1)], .fz (.lst (row.map .int)), .fz (.str c'), LP.app hL hc' (by omega) (by omega) (by simp [lastC, hcl]; exact Ne.symm hne'), by simp, ?_⟩
      (simp -implicitDefEqProofs [tailS, hix, encP_ix0, hcl, hx1, szl, hq, hlt2, colP, hj1, hj2, nol_encP]; simp [encP])
    · refine ⟨init ++ [l] ++ [(col, 1 + nth row 1)], .fz (.lst (row.map .int)), .fz (.str col), LP.app hL hc (by omega) (by omega) (by simp [lastC, hcl]), by simp, ?_⟩
      (simp -implicitDefEqProofs [tailS, hix, encP_ix0, hcl, hx1, szl, hq, hlt2, nol_encP]; simp [encP])
theorem dark_col : ("dark" : Str) ∈ COL := by decide +kernel
theorem a01 (x y : PV) : atI [x, y] 0 = some x := rfl
theorem a12 (x y : PV) : atI [x, y] 1 = some y := rfl
theorem phases_turn {F : Nat → List PV → R PV} (h1 : S_draw (F 22)) {c most longest : Int} {n i : Nat} {d : PV} {acc : List Ph} {s8 s9 s10 : Sl} (hL : LP longest acc) (hl0 : 1 ≤ longest) (hl1 : longest ≤ 6000) (hn : acc.length ≤ 1000) (hi : i ≤ 1000) :
    ∃ (acc' : List Ph) (a8 a9 : Sl), LP longest acc' ∧ acc'.length = acc.length + 1 ∧ b__law_phases_0 F [.fz (.int c), .fz (.int most), .fz (.int longest), .fz d, .fz (.int (n : Int)), .fz colP, .own (acc.map encP), .fz (.int (i : Int)), s8, s9, s10] =
      .next [.fz (.int c), .fz (.int most), .fz (.int longest), .fz d, .fz (.int (n : Int)), .fz colP, .own (acc'.map encP), .fz (.int (i : Int)), a8, a9, s10] := by
  have l0 : ∀ j, nth [8, longest, 6] j = if j = 0 then 8 else if j = 1 then longest else if j = 2 then 6 else 0 := by
    intro j
    rcases j with _ | _ | _ | j <;> simp [nth]
  obtain ⟨row, f1, f2, f3⟩ := h1 (c / 3 + 17 * (i : Int)) [8, longest, 6] (by simp) (by
    intro j hj
    rw [l0]
    simp at hj
    split
    · omega
    · split
      · omega
      · split <;> omega)
  have hr0 := f3 0 (by simp)
  have hr1 := f3 1 (by simp)
  rw [l0] at hr0 hr1
  have hx0 : atI (row.map PV.int) 0 = some (.int (nth row 0)) := nth_at (i := 0) (by rw [f2]; simp)
  have hx1 : atI (row.map PV.int) 1 = some (.int (nth row 1)) := nth_at (i := 1) (by rw [f2]; simp)
  have hx2 : atI (row.map PV.int) 2 = some (.int (nth row 2)) := nth_at (i := 2) (by rw [f2]; simp)
  simp only [if_true, Nat.one_ne_zero, if_false] at hr0 hr1
  simp only [List.map_cons, List.map_nil] at f1
  have hb3 : (3 : Int) < bigI := bigI_of (by decide)
  have hmk : mulOk 17 (i : Int) = true := mulOk_r ⟨by omega, by omega⟩
  obtain ⟨cw, hcw, hw⟩ := w8_at hr0.1 hr0.2
  have mid : ∃ col ∈ COL, b__law_phases_0 F [.fz (.int c), .fz (.int most), .fz (.int longest), .fz d, .fz (.int (n : Int)), .fz colP, .own (acc.map encP), .fz (.int (i : Int)), s8, s9, s10] =
      tailS [.fz (.int c), .fz (.int most), .fz (.int longest), .fz d, .fz (.int (n : Int)), .fz colP, .own (acc.map encP), .fz (.int (i : Int)), .fz (.lst (row.map .int)), .fz (.str col), s10] := by
    have un : b__law_phases_0 F = sSeq (sSet 8 [] (eArgs (gN 2 (F 22)) [e2 addP (e2 divP (eVar 0) (eC (.int 3))) (e2 mulP (eC (.int 17)) (eVar 7)), eArgs gLstV [eC (.int 8), eVar 2, eC (.int 6)]])) (sSeq (sSet 9 [] (eC (.str "dark"))) (sSeq (sIf [] (cOr (eTst (e2 eqP (e2 modP (eCB intP [eVar 7]) (eC (.int 2))) (eC (.int 0)))) (eTst (e2 eqP (e2 ixP (eVar 8) (eC (.int 2))) (eC (.int 0))))) (sSet 9 [] (e2 ixP (eArgs gLstV [e2 ixP (eArgs gLstV [eC (.str "white"), eC (.str "white"), eC (.str "red"), eC (.str "green"), eC (.str "yellow"), eC (.str "white"), eC (.str "red"), eC (.str "white")]) (e2 ixP (eVar 8) (eC (.int 0))), eC (.str "dark")]) (eCB intP [eAnd (e2 eqP (eVar 4) (eC (.int 1))) (e2 eqP (e2 ixP (eVar 8) (eC (.int 0))) (eC (.int 7)))]))) (sPass)) tailS)) := rfl
    rw [un]
    have tl : ∀ col, tailS ([.fz (.int c), .fz (.int most), .fz (.int longest), .fz d, .fz (.int (n : Int)), .fz colP, .own (acc.map encP), .fz (.int (i : Int)), .fz (.lst (row.map .int)), .fz (.str col), s10] : VL.Env) = tailS [.fz (.int c), .fz (.int most), .fz (.int longest), .fz d, .fz (.int (n : Int)), .fz colP, .own (acc.map encP), .fz (.int (i : Int)), .fz (.lst (row.map .int)), .fz (.str col), s10] := fun _ => rfl
    by_cases hk : (i : Int) % 2 = 0 ∨ nth row 2 = 0
    · have hk2 : ∀ (x y : R Bool), True := fun _ _ => trivial
      by_cases hn1 : n = 1 ∧ nth row 0 = 7
      · refine ⟨"dark", dark_col, ?_⟩
        have hn1' : (n : Int) = 1 := by omega
        rw [hn1.2] at hw
        rcases Classical.em ((i : Int) % 2 = 0) with hk1 | hk1
        · simp -implicitDefEqProofs [hb3, hmk, f1, hx0, hx2, hk1, hw, hn1', hn1.2, szl, a12]
        · have hk2 := hk.resolve_left hk1
          simp -implicitDefEqProofs [hb3, hmk, f1, hx0, hx2, hk1, hk2, hw, hn1', hn1.2, szl, a12]
      · refine ⟨cw, hcw, ?_⟩
        have fin : ∀ (b1 b2 : Bool), decide ((n : Int) = 1) = b1 → decide (nth row 0 = 7) = b2 → (b1 && b2) = false → True := fun _ _ _ _ _ => trivial
        by_cases hn2 : (n : Int) = 1
        · have h7 : ¬ nth row 0 = 7 := fun z => hn1 ⟨by omega, z⟩
          rcases Classical.em ((i : Int) % 2 = 0) with hk1 | hk1
          · simp -implicitDefEqProofs [hb3, hmk, f1, hx0, hx2, hk1, hw, hn2, h7, szl, a01]
          · have hk2 := hk.resolve_left hk1
            simp -implicitDefEqProofs [hb3, hmk, f1, hx0, hx2, hk1, hk2, hw, hn2, h7, szl, a01]
        · have hn3 : ¬ n = 1 := by omega
          rcases Classical.em ((i : Int) % 2 = 0) with hk1 | hk1
          · simp -implicitDefEqProofs [hb3, hmk, f1, hx0, hx2, hk1, hw, hn2, hn3, szl, a01]
          · have hk2 := hk.resolve_left hk1
            simp -implicitDefEqProofs [hb3, hmk, f1, hx0, hx2, hk1, hk2, hw, hn2, hn3, szl, a01]
    · refine ⟨"dark", dark_col, ?_⟩
      have hk1 : ¬ (i : Int) % 2 = 0 := fun z => hk (.inl z)
      have hk2 : ¬ nth row 2 = 0 := fun z => hk (.inr z)
      simp -implicitDefEqProofs [hb3, hmk, f1, hx0, hx2, hk1, hk2, szl]
  obtain ⟨col, hcol, e⟩ := mid
  rw [e]
  exact tail_turn hL hn hcol hx1 hr1.1 hr1.2
end PH
namespace PH
open PySem PySem.Spec PyProof.Rows L2 VL PF
def S_phases (g : List PV → R PV) : Prop := ∀ c most longest : Int, 1 ≤ most → most ≤ 100 → 1 ≤ longest → longest ≤ 6000 →
  ∃ ps : List Ph, g [.int c, .int most, .int longest] = .ok (encPs ps) ∧ Good ps ∧ (ps.length : Int) ≤ most ∧ ∀ p ∈ ps, p.2 ≤ longest
theorem nols_strs (xs : List Str) : PV.nols (xs.map PV.str) = true := by
  induction xs with
  | nil => simp
  | cons x xs ih => simp [ih]
theorem in2 (c a b : Str) : inB (.str c) (.lst [.str a, .str b]) = some (decide (c = a ∨ c = b)) := by
  show some _ = _
  congr 1
  rw [Bool.eq_iff_iff]
  simp only [List.any_cons, List.any_nil, eqF, Bool.or_false, Bool.or_eq_true, beq_iff_eq, decide_eq_true_eq]
  constructor <;> (intro h; rcases h with h | h <;> simp [h])
theorem LP.chain {longest : Int} {acc : List Ph} (h : LP longest acc) (hl : longest ≤ 6000) (hne : acc ≠ []) : Chain acc :=
  ⟨hne, fun p hp => by
    obtain ⟨h1, h2, h3⟩ := h.col p hp
    unfold isPh
    rw [decide_eq_true h1, decide_eq_true h2, decide_eq_true (by omega : p.2 ≤ 6000)]
    rfl, adj_at h.adj⟩
theorem colP_items : itemsP colP = .ok (COL.map .str) := rfl
theorem others_ne (a b : Str) : ∃ c ∈ COL, c ≠ a ∧ c ≠ b := by
  by_cases h1 : ("white" : Str) = a ∨ ("white" : Str) = b
  · by_cases h2 : ("red" : Str) = a ∨ ("red" : Str) = b
    · refine ⟨"green", by decide +kernel, ?_, ?_⟩
      · rintro rfl
        rcases h1 with h1 | h1
        · exact absurd h1 (by decide +kernel)
        · rcases h2 with h2 | h2
          · exact absurd h2 (by decide +kernel)
          · rw [← h1] at h2; exact absurd h2 (by decide +kernel)
      · rintro rfl
        rcases h1 with h1 | h1
        · rcases h2 with h2 | h2
          · rw [← h1] at h2; exact absurd h2 (by decide +kernel)
          · exact absurd h2 (by decide +kernel)
        · exact absurd h1 (by decide +kernel)
    · exact ⟨"red", by decide +kernel, fun e => h2 (.inl e), fun e => h2 (.inr e)⟩
  · exact ⟨"white", by decide +kernel, fun e => h1 (.inl e), fun e => h1 (.inr e)⟩
theorem ecol : PV.lst [.str "white", .str "red", .str "green", .str "yellow", .str "dark"] = colP := rfl
theorem sp_phases {F : Nat → List PV → R PV} (h1 : S_draw (F 22)) : S_phases fun us => outR (b__law_phases F (startE 11 us)) := by
  intro c most longest hm0 hm1 hl0 hl1
  obtain ⟨row, f1, f2, f3⟩ := h1 c [most] (by simp) (by
    intro j hj
    simp at hj
    subst hj
    exact ⟨by show 0 < most; omega, by show most < _; omega⟩)
  have hr0 := f3 0 (by simp)
  have e0 : nth [most] 0 = most := rfl
  rw [e0] at hr0
  have hx0 : atI (row.map PV.int) 0 = some (.int (nth row 0)) := nth_at (i := 0) (by rw [f2]; simp)
  simp only [List.map_cons, List.map_nil] at f1
  obtain ⟨n, hn⟩ : ∃ n : Nat, 1 + nth row 0 = (n : Int) := ⟨(1 + nth row 0).toNat, by omega⟩
  have hn1 : 1 ≤ n := by omega
  have hn2 : (n : Int) ≤ most := by omega
  have hrg : rg1 (n : Int) = .ok (rangeP 0 n) := rg1_nat (by omega)
  have T : ∃ (acc : List Ph) (x8 x9 : Sl) (x7 : Sl), LP longest acc ∧ acc.length = n ∧ forL (tN 7) (b__law_phases_0 F) (rangeP 0 n) [.fz (.int c), .fz (.int most), .fz (.int longest), .fz (.lst (row.map .int)), .fz (.int (n : Int)), .fz colP, .own [], .no, .no, .no, .no] =
      .next [.fz (.int c), .fz (.int most), .fz (.int longest), .fz (.lst (row.map .int)), .fz (.int (n : Int)), .fz colP, .own (acc.map encP), x7, x8, x9, .no] := by
    refine forL_by (Q := fun o => ∃ (acc : List Ph) (x8 x9 : Sl) (x7 : Sl), LP longest acc ∧ acc.length = n ∧ o = .next [.fz (.int c), .fz (.int most), .fz (.int longest), .fz (.lst (row.map .int)), .fz (.int (n : Int)), .fz colP, .own (acc.map encP), x7, x8, x9, .no])
      (fun i r => ∃ (acc : List Ph) (x7 x8 x9 : Sl), LP longest acc ∧ acc.length = i ∧ r = [.fz (.int c), .fz (.int most), .fz (.int longest), .fz (.lst (row.map .int)), .fz (.int (n : Int)), .fz colP, .own (acc.map encP), x7, x8, x9, .no])
      ⟨[], _, _, _, ⟨fun p hp => by simp at hp, trivial⟩, rfl, rfl⟩ (fun i v r hv hi => ?_) (fun r hr => ?_)
    · obtain ⟨hi1, rfl⟩ := rangeP_get hv
      obtain ⟨acc, x7, x8, x9, hL, hlen, rfl⟩ := hi
      obtain ⟨acc', a8, a9, hL', hlen', e⟩ := phases_turn h1 (c := c) (most := most) (n := n) (i := i) (d := .lst (row.map .int)) (s8 := x8) (s9 := x9) (s10 := .no) hL hl0 hl1 (by omega) (by omega)
      refine ⟨_, rfl, .inl ⟨[.fz (.int c), .fz (.int most), .fz (.int longest), .fz (.lst (row.map .int)), .fz (.int (n : Int)), .fz colP, .own (acc'.map encP), .fz (.int (i : Int)), a8, a9, .no], .inl ?_, acc', _, a8, a9, hL', by omega, rfl⟩⟩
      rw [← e]
      simp -implicitDefEqProofs
    · obtain ⟨acc, x7, x8, x9, hL, hlen, rfl⟩ := hr
      rw [rangeP_len] at hlen
      exact ⟨acc, x8, x9, x7, hL, hlen, rfl⟩
  obtain ⟨acc, x8, x9, x7, hL, hlen, e⟩ := T
  have hne : acc ≠ [] := by intro z; subst z; simp at hlen; omega
  have hC := hL.chain hl1 hne
  have pre : ∀ k : VL.Env → Out, True := fun _ => trivial
  by_cases hb : 1 < n ∧ (ph acc 0).1 = (ph acc (n - 1)).1
  · obtain ⟨hb1, hb2⟩ := hb
    obtain ⟨init, l, rfl⟩ : ∃ init l, acc = init ++ [l] := ⟨acc.dropLast, acc.getLast hne, (List.dropLast_concat_getLast hne).symm⟩
    have hil : init.length + 1 = n := by simpa using hlen
    have hi0 : init ≠ [] := by intro z; subst z; simp at hil; omega
    have hipos := List.length_pos_iff.mpr hi0
    have p0 : ph (init ++ [l]) 0 = ph init 0 := by
      unfold ph
      rw [List.getD_eq_getElem?_getD, List.getD_eq_getElem?_getD, List.getElem?_append_left hipos]
    have pl : ph (init ++ [l]) (n - 1) = l := by
      unfold ph
      rw [List.getD_eq_getElem?_getD, show n - 1 = init.length by omega]
      simp
    have pp : ph (init ++ [l]) (n - 2) = ph init (n - 2) := by
      unfold ph
      rw [List.getD_eq_getElem?_getD, List.getD_eq_getElem?_getD, List.getElem?_append_left (by omega)]
    have g0 : atI ((init ++ [l]).map encP) 0 = some (encP (ph init 0)) := by
      have := encPs_ix (ps := init ++ [l]) (i := 0) (by simp)
      rw [p0] at this
      exact this
    have gl : atI ((init ++ [l]).map encP) ((n : Int) - 1) = some (encP l) := by
      have := encPs_ix (ps := init ++ [l]) (i := n - 1) (by simp; omega)
      rw [pl, show ((n - 1 : Nat) : Int) = (n : Int) - 1 by omega] at this
      exact this
    have gp : atI ((init ++ [l]).map encP) ((n : Int) - 2) = some (encP (ph init (n - 2))) := by
      have := encPs_ix (ps := init ++ [l]) (i := n - 2) (by simp; omega)
      rw [pp, show ((n - 2 : Nat) : Int) = (n : Int) - 2 by omega] at this
      exact this
    rw [p0, pl] at hb2
    generalize hA : (ph init 0).1 = A at *
    generalize hB : (ph init (n - 2)).1 = B at *
    let ot := COL.filter fun x => !decide (x = A ∨ x = B)
    have hone : ot ≠ [] := by
      obtain ⟨x, hx, h2, h3⟩ := others_ne A B
      intro z
      have : x ∈ ot := List.mem_filter.mpr ⟨hx, by simp [h2, h3]⟩
      rw [z] at this
      simp at this
    have hlast : ot.getLast hone ∈ ot := List.getLast_mem hone
    have hlast2 := List.mem_filter.mp hlast
    have hL1 : ot.getLast hone ≠ A ∧ ot.getLast hone ≠ B := by
      have := hlast2.2
      simpa using this
    have lce : lcL (tN 9) (b__law_phases_2 F) (b__law_phases_1 F) [some (.int c), some (.int most), some (.int longest), some (.lst (row.map .int)), some (.int (n : Int)), some colP, some (.lst ((init ++ [l]).map encP)), vw1 false x7, vw1 false x8, none, none] (COL.map .str) = .ok (ot.map .str) := by
      refine lcL_filter PV.str PV.str (fun x => !decide (x = A ∨ x = B)) COL fun x _ => ⟨_, rfl, ?_, fun _ => ?_⟩
      · simp -implicitDefEqProofs [b__law_phases_2, g0, gp, encP_ix0, hA, hB, szl, in2, -List.map_append]
      · simp -implicitDefEqProofs [b__law_phases_1]
    have hotl : ot.length ≤ 5 := List.length_filter_le _ _
    have hsz : (ot.map PV.str).length ≤ sizeLine := by rw [List.length_map, szl]; omega
    have hol : atI (ot.map PV.str) ((ot.length : Int) - 1) = some (.str (ot.getLast hone)) := by
      have := List.length_pos_iff.mpr hone
      rw [show ((ot.length : Int) - 1) = ((ot.length - 1 : Nat) : Int) by omega, atI_map, atI_nat' (by omega), List.getLast_eq_getElem]
      rfl
    generalize ot.getLast hone = C at *
    have hix : ixN (init.length + 1) ((n : Int) - 1) = some init.length := by
      unfold ixN
      rw [if_pos (by omega), if_pos (by omega), show ((n : Int) - 1).toNat = init.length by omega]
    have hot5 : ot.length ≤ 16777216 := by omega
    have hset : ((init ++ [l]).map encP).set init.length (.tup [.str C, .int l.2]) = (init ++ [(C, l.2)]).map encP := by
      simp [encP, List.set_append]
    refine ⟨init ++ [(C, l.2)], ?_, ?_, ?_, ?_⟩
    · have hc1 : (1 : Int) < (n : Int) := by omega
      show outR (b__law_phases F [.fz (.int c), .fz (.int most), .fz (.int longest), .no, .no, .no, .no, .no, .no, .no, .no]) = _
      have lce' := lce
      simp -implicitDefEqProofs [b__law_phases, f1, hx0, hn, hrg, szl, ecol, e, hc1, g0, gl, encP_ix0, encP_ix1, hA, hb2, colP_items, lce, hot5, nols_strs, hol, hix, hset, nol_encP, -List.map_append]
      rfl
    · refine ⟨LP.chain (longest := longest) ⟨fun p hp => ?_, ?_⟩ hl1 (by simp), fun _ => ?_⟩
      · rcases List.mem_append.mp hp with hp | hp
        · exact hL.col p (List.mem_append_left _ hp)
        · simp at hp; subst hp
          exact ⟨hlast2.1, (hL.col l (by simp)).2⟩
      · rw [adj_app]
        refine ⟨(adj_app.mp hL.adj).1, trivial, .inr (.inr ?_)⟩
        have : lastC init = some B := by
          unfold lastC
          rw [List.getLast?_eq_some_getLast hi0, getLast_ph hi0, show init.length - 1 = n - 2 by omega]
          simp [hB]
        rw [this]
        simpa [hd] using Ne.symm hL1.2
      · have q0 : ph (init ++ [(C, l.2)]) 0 = ph init 0 := by
          unfold ph
          rw [List.getD_eq_getElem?_getD, List.getD_eq_getElem?_getD, List.getElem?_append_left hipos]
        have ql : ph (init ++ [(C, l.2)]) ((init ++ [(C, l.2)]).length - 1) = (C, l.2) := by
          unfold ph
          simp
        rw [q0, ql, hA]
        exact Ne.symm hL1.1
    · simp; omega
    · intro p hp
      rcases List.mem_append.mp hp with hp | hp
      · exact (hL.col p (List.mem_append_left _ hp)).2.2
      · simp at hp; subst hp
        exact (hL.col l (by simp)).2.2
  · refine ⟨acc, ?_, ⟨hC, fun h => ?_⟩, by omega, fun p hp => (hL.col p hp).2.2⟩
    · show outR (b__law_phases F [.fz (.int c), .fz (.int most), .fz (.int longest), .no, .no, .no, .no, .no, .no, .no, .no]) = _
      by_cases hb1 : 1 < n
      · have g0 : atI (acc.map encP) 0 = some (encP (ph acc 0)) := encPs_ix (ps := acc) (i := 0) (by omega)
        have gl : atI (acc.map encP) ((n : Int) - 1) = some (encP (ph acc (n - 1))) := by
          have := encPs_ix (ps := acc) (i := n - 1) (by omega)
          rw [show ((n - 1 : Nat) : Int) = (n : Int) - 1 by omega] at this
          exact this
        have hb2 : ¬ (ph acc 0).1 = (ph acc (n - 1)).1 := fun z => hb ⟨hb1, z⟩
        have hc1 : (1 : Int) < (n : Int) := by omega
        simp -implicitDefEqProofs [b__law_phases, f1, hx0, hn, hrg, szl, ecol, e, hc1, g0, gl, encP_ix0, hb2, encPs]
      · have hb1' : ¬ (1 : Int) < (n : Int) := by omega
        simp -implicitDefEqProofs [b__law_phases, f1, hx0, hn, hrg, szl, ecol, e, hb1, hb1', encPs]
    · rw [hlen] at h ⊢
      exact fun z => hb ⟨h, z⟩
end PH
namespace PH
open PySem (Str)
/-! ### characters, turned and repeated -/
theorem hd_ph {ps : List Ph} (h : ps ≠ []) : hd ps = some (ph ps 0).1 := by
  cases ps with
  | nil => exact absurd rfl h
  | cons p r => rfl
theorem lastC_ph {ps : List Ph} (h : ps ≠ []) : lastC ps = some (ph ps (ps.length - 1)).1 := by
  unfold lastC
  rw [List.getLast?_eq_some_getLast h, getLast_ph h]
  rfl
/-- well made, said of lists -/
structure GL (ps : List Ph) : Prop where
  ne : ps ≠ []
  ok : ∀ p ∈ ps, isPh p = true
  adj : Adj ps
  ends : 1 < ps.length → lastC ps ≠ hd ps
theorem good_iff {ps : List Ph} : Good ps ↔ GL ps := by
  constructor
  · intro g
    refine ⟨g.ne, g.ok, adj_of g.adj, fun h e => ?_⟩
    rw [lastC_ph g.ne, hd_ph g.ne] at e
    exact g.ends h (Option.some.inj e).symm
  · intro g
    refine ⟨⟨g.ne, g.ok, adj_at g.adj⟩, fun h e => ?_⟩
    apply g.ends h
    rw [lastC_ph g.ne, hd_ph g.ne, e]
theorem GL.pos {ps : List Ph} (g : GL ps) : Pos ps := (good_iff.mpr g).pos
theorem chain_of {ps : List Ph} (h1 : ps ≠ []) (h2 : ∀ p ∈ ps, isPh p = true) (h3 : Adj ps) : Chain ps := ⟨h1, h2, adj_at h3⟩
theorem hd_app {a b : List Ph} (h : a ≠ []) : hd (a ++ b) = hd a := by
  cases a with
  | nil => exact absurd rfl h
  | cons p r => rfl
theorem lastC_app {a b : List Ph} (h : b ≠ []) : lastC (a ++ b) = lastC b := by
  unfold lastC
  rw [List.getLast?_append, List.getLast?_eq_some_getLast h]
  rfl
theorem rep_ok {ps : List Ph} (h1 : ps ≠ []) (h2 : Adj ps) (h3 : lastC ps ≠ hd ps) : ∀ k, 1 ≤ k → Adj (List.replicate k ps).flatten ∧ hd (List.replicate k ps).flatten = hd ps ∧ lastC (List.replicate k ps).flatten = lastC ps ∧ (List.replicate k ps).flatten ≠ []
  | 0, h => by omega
  | 1, _ => by simpa using ⟨h2, h1⟩
  | k + 2, _ => by
    obtain ⟨a, b, c, d⟩ := rep_ok h1 h2 h3 (k + 1) (by omega)
    rw [List.replicate_succ, List.flatten_cons]
    refine ⟨adj_app.mpr ⟨h2, a, .inr (.inr (by rw [b]; exact h3))⟩, hd_app h1, by rw [lastC_app d, c], by simp [h1]⟩
theorem rep_good {ps : List Ph} (g : GL ps) (h : 1 < ps.length) {k : Nat} (hk : 1 ≤ k) : GL (List.replicate k ps).flatten := by
  obtain ⟨a, b, c, d⟩ := rep_ok g.ne g.adj (g.ends h) k hk
  refine ⟨d, fun p hp => ?_, a, fun _ => by rw [b, c]; exact g.ends h⟩
  rw [List.mem_flatten] at hp
  obtain ⟨l, h1, h2⟩ := hp
  rw [(List.mem_replicate.mp h1).2] at h2
  exact g.ok p h2
theorem split_at {ps : List Ph} {i : Nat} (h : i < ps.length) : ps = ps.take i ++ (ph ps i :: ps.drop (i + 1)) := by
  have e : ps.drop i = ph ps i :: ps.drop (i + 1) := by
    rw [List.drop_eq_getElem_cons h]
    congr 1
    unfold ph
    rw [List.getD_eq_getElem?_getD, List.getElem?_eq_getElem h]
    rfl
  rw [← e, List.take_append_drop]
/-- the tenths around a moment -/
theorem around {ps : List Ph} {x : Int} (hp : Pos ps) (h0 : 0 ≤ x) (hx : x < wh ps) :
    ∃ (T D : List Ph) (p : Ph) (r : Int), ps = T ++ (p :: D) ∧ (place ps x).1 = T.length ∧ (place ps x).2 = r ∧ 0 ≤ r ∧ r < p.2 ∧ x = ((ticks T).length : Int) + r ∧ ph ps (place ps x).1 = p ∧ ps.take (place ps x).1 = T ∧ ps.drop ((place ps x).1 + 1) = D := by
  obtain ⟨h1, h2, h3, h4⟩ := place_ok hp h0 hx
  refine ⟨_, _, _, _, split_at h1, ?_, rfl, h2, h3, h4.symm, rfl, rfl, rfl⟩
  rw [List.length_take]
  omega
/-- turned at a moment, as tenths -/
theorem turned_ticks {ps : List Ph} {t : Int} (hp : Pos ps) (hne : ps ≠ []) (h1 : ps.length ≠ 1) : ticks (turned ps t) = (ticks ps).drop (t % wh ps).toNat ++ (ticks ps).take (t % wh ps).toNat := by
  have hw := wh_pos hp hne
  have h0 : 0 ≤ t % wh ps := Int.emod_nonneg (b := wh ps) _ (by omega)
  have hx : t % wh ps < wh ps := Int.emod_lt_of_pos t hw
  obtain ⟨T, D, p, r, e1, e2, e3, g1, g2, g3, g4, g5, g6⟩ := around hp h0 hx
  have g7 : ps.drop (place ps (t % wh ps)).1 = p :: D := by
    rw [e2]
    conv => lhs; rw [e1]
    simp
  unfold turned
  rw [if_neg h1]
  simp only [e3, g4, g5, g6, g7]
  have et : ticks ps = ticks T ++ (List.replicate p.2.toNat p.1 ++ ticks D) := by
    conv => lhs; rw [e1]
    rw [ticks_app, ticks_cons]
  have ex : (t % wh ps).toNat = (ticks T).length + r.toNat := by omega
  rw [et, ex]
  have hd : (ticks T ++ (List.replicate p.2.toNat p.1 ++ ticks D)).drop ((ticks T).length + r.toNat) = List.replicate (p.2.toNat - r.toNat) p.1 ++ ticks D := by
    have hk : r.toNat ≤ p.2.toNat := by omega
    rw [List.drop_append, List.drop_of_length_le (by omega), List.nil_append, show (ticks T).length + r.toNat - (ticks T).length = r.toNat by omega, List.drop_append_of_le_length (by simpa using hk), List.drop_replicate]
  have ht : (ticks T ++ (List.replicate p.2.toNat p.1 ++ ticks D)).take ((ticks T).length + r.toNat) = ticks T ++ List.replicate r.toNat p.1 := by
    have hk : r.toNat ≤ p.2.toNat := by omega
    rw [List.take_append, List.take_of_length_le (by omega), show (ticks T).length + r.toNat - (ticks T).length = r.toNat by omega, List.take_append_of_le_length (by simpa using hk), List.take_replicate, Nat.min_eq_left hk]
  rw [hd, ht]
  by_cases hr : r = 0
  · rw [if_pos hr]
    subst hr
    simp [ticks_app]
  · rw [if_neg hr]
    simp only [ticks_app, ticks_cons, ticks_nil, List.append_nil, List.append_assoc]
    rw [show (p.2 - r).toNat = p.2.toNat - r.toNat by omega]
theorem adj_col {p q : Ph} {r : List Ph} (h : p.1 = q.1) : Adj (p :: r) ↔ Adj (q :: r) := by
  rw [adj_cons, adj_cons, h]
theorem adj_colR {p q : Ph} {r : List Ph} (h : p.1 = q.1) : Adj (r ++ [p]) ↔ Adj (r ++ [q]) := by
  rw [adj_app, adj_app]
  simp [Adj, hd, h]
/-- how a turned character is made -/
theorem turned_made {ps : List Ph} {t : Int} (g : GL ps) (h1 : 1 < ps.length) :
    (GL (turned ps t) ∧ (turned ps t).length = ps.length) ∨ ∃ (p q : Ph) (mid : List Ph), turned ps t = p :: (mid ++ [q]) ∧ p.1 = q.1 ∧ mid ≠ [] ∧ Adj (p :: (mid ++ [q])) ∧ Pos (p :: (mid ++ [q])) ∧ (∀ x ∈ p :: (mid ++ [q]), isPh x = true) ∧ mid.length + 1 = ps.length := by
  have hp := g.pos
  have hw := wh_pos hp g.ne
  have h0 : 0 ≤ t % wh ps := Int.emod_nonneg (b := wh ps) _ (by omega)
  have hx : t % wh ps < wh ps := Int.emod_lt_of_pos t hw
  obtain ⟨T, D, p, r, e1, e2, e3, g1, g2, g3, g4, g5, g6⟩ := around hp h0 hx
  have g7 : ps.drop (place ps (t % wh ps)).1 = p :: D := by
    rw [e2]
    conv => lhs; rw [e1]
    simp
  have hadj := g.adj
  have hends := g.ends h1
  have hok := g.ok
  rw [e1] at hadj hends hok h1
  have hadj2 := adj_app.mp hadj
  have tu : turned ps t = if r = 0 then (p :: D) ++ T else [(p.1, p.2 - r)] ++ D ++ T ++ [(p.1, r)] := by
    unfold turned
    rw [if_neg (by rw [e1]; omega)]
    simp only [e3, g4, g5, g6, g7]
  -- the turned list's colours
  have rot : Adj ((p :: D) ++ T) := by
    rw [adj_app]
    refine ⟨hadj2.2.1, hadj2.1, ?_⟩
    by_cases hT : T = []
    · exact .inr (.inl hT)
    · refine .inr (.inr ?_)
      rw [lastC_app (by simp), hd_app hT] at hends
      exact hends
  have lastNe : lastC ((p :: D) ++ T) ≠ some p.1 := by
    by_cases hT : T = []
    · subst hT
      rw [List.append_nil]
      simpa [hd] using hends
    · rw [lastC_app hT]
      rcases hadj2.2.2 with h | h | h
      · exact absurd h hT
      · cases h
      · simpa [hd] using h
  have len : ((p :: D) ++ T).length = (T ++ (p :: D)).length := by simp; omega
  by_cases hr : r = 0
  · left
    rw [tu, if_pos hr]
    refine ⟨⟨by simp, fun x hx => ?_, rot, fun _ => ?_⟩, by rw [len, ← e1]⟩
    · rcases List.mem_append.mp hx with hx | hx
      · exact hok x (List.mem_append_right _ hx)
      · exact hok x (List.mem_append_left _ hx)
    · simpa [hd] using lastNe
  · right
    refine ⟨(p.1, p.2 - r), (p.1, r), D ++ T, by rw [tu, if_neg hr]; simp, rfl, ?_, ?_, ?_, ?_, ?_⟩
    · intro z
      have hD := (List.append_eq_nil_iff.mp z).1
      have hT := (List.append_eq_nil_iff.mp z).2
      subst hD hT
      simp at h1
    · have e : ((p.1, p.2 - r) : Ph) :: (D ++ T ++ [(p.1, r)]) = ((p.1, p.2 - r) :: (D ++ T)) ++ [(p.1, r)] := by simp
      rw [e, adj_app]
      refine ⟨(adj_col (p := (p.1, p.2 - r)) (q := p) rfl).mpr (by simpa using rot), trivial, .inr (.inr ?_)⟩
      have : lastC (((p.1, p.2 - r) : Ph) :: (D ++ T)) = lastC (p :: (D ++ T)) := by
        cases hz : D ++ T with
        | nil => rfl
        | cons y ys => simp [lastC]
      rw [this]
      simpa [hd] using lastNe
    · intro x hx
      rcases List.mem_cons.mp hx with rfl | hx
      · show 1 ≤ p.2 - r; omega
      · rcases List.mem_append.mp hx with hx | hx
        · rcases List.mem_append.mp hx with hx | hx
          · exact hp x (by rw [e1]; simp [hx])
          · exact hp x (by rw [e1]; simp [hx])
        · simp at hx; subst hx; show 1 ≤ r; omega
    · have hpo := isPh_pos (hok p (by simp))
      have mk : ∀ z : Int, 1 ≤ z → z ≤ 6000 → isPh (p.1, z) = true := fun z a b => by
        unfold isPh
        simp [hpo.2.2, a, b]
      intro x hx
      rcases List.mem_cons.mp hx with rfl | hx
      · exact mk _ (by omega) (by omega)
      · rcases List.mem_append.mp hx with hx | hx
        · rcases List.mem_append.mp hx with hx | hx
          · exact hok x (by simp [hx])
          · exact hok x (by simp [hx])
        · simp at hx; subst hx; exact mk _ (by omega) (by omega)
    · rw [e1]
      simp
      omega
end PH
namespace PH
open PySem (Str)
/-! ### the shortest form -/
theorem ticks_rep (k : Nat) (ps : List Ph) : ticks (List.replicate k ps).flatten = (List.replicate k (ticks ps)).flatten := by
  induction k with
  | zero => rfl
  | succ k ih => rw [List.replicate_succ, List.replicate_succ, List.flatten_cons, List.flatten_cons, ticks_app, ih]
theorem pos_rep {k : Nat} {ps : List Ph} (h : Pos ps) : Pos (List.replicate k ps).flatten := fun p hp => by
  rw [List.mem_flatten] at hp
  obtain ⟨l, h1, h2⟩ := hp
  rw [(List.mem_replicate.mp h1).2] at h2
  exact h p h2
theorem ticks_pos {ps : List Ph} (h : Pos ps) : ps.length ≤ (ticks ps).length := by
  induction ps with
  | nil => simp
  | cons p r ih =>
    have h1 := h p List.mem_cons_self
    have := ih fun q hq => h q (List.mem_cons_of_mem _ hq)
    rw [ticks_cons, List.length_append, List.length_replicate, List.length_cons]
    omega
theorem ticks_hd {ps : List Ph} (h : Pos ps) : (ticks ps).head? = hd ps := by
  cases ps with
  | nil => rfl
  | cons p r =>
    have h1 := h p List.mem_cons_self
    obtain ⟨n, hn⟩ : ∃ n, p.2.toNat = n + 1 := ⟨p.2.toNat - 1, by omega⟩
    rw [ticks_cons, hn, List.replicate_succ]
    rfl
theorem ticks_lastC {ps : List Ph} (h : Pos ps) : (ticks ps).getLast? = lastC ps := by
  by_cases hne : ps = []
  · subst hne; rfl
  · obtain ⟨init, l, rfl⟩ : ∃ init l, ps = init ++ [l] := ⟨ps.dropLast, ps.getLast hne, (List.dropLast_concat_getLast hne).symm⟩
    have h1 := h l (by simp)
    obtain ⟨n, hn⟩ : ∃ n, l.2.toNat = n + 1 := ⟨l.2.toNat - 1, by omega⟩
    rw [ticks_app, ticks_cons, ticks_nil, List.append_nil, hn, List.replicate_succ', ← List.append_assoc, List.getLast?_concat, lastC, List.getLast?_concat]
    rfl
theorem rep_take {α : Type} {u : List α} {k : Nat} (h : 1 ≤ k) : (List.replicate k u).flatten.take u.length = u := by
  obtain ⟨m, rfl⟩ : ∃ m, k = m + 1 := ⟨k - 1, by omega⟩
  rw [List.replicate_succ, List.flatten_cons, List.take_left']
  rfl
theorem rep_len {α : Type} (u : List α) (k : Nat) : (List.replicate k u).flatten.length = k * u.length := by
  induction k with
  | zero => simp
  | succ k ih => rw [List.replicate_succ, List.flatten_cons, List.length_append, ih, Nat.succ_mul, Nat.add_comm]
theorem rep_head {α : Type} {u : List α} {k : Nat} (h : 1 ≤ k) (hu : u ≠ []) : (List.replicate k u).flatten.head? = u.head? := by
  obtain ⟨m, rfl⟩ : ∃ m, k = m + 1 := ⟨k - 1, by omega⟩
  rw [List.replicate_succ, List.flatten_cons]
  cases u with
  | nil => exact absurd rfl hu
  | cons x u => rfl
theorem rep_last {α : Type} {u : List α} {k : Nat} (h : 1 ≤ k) (hu : u ≠ []) : (List.replicate k u).flatten.getLast? = u.getLast? := by
  obtain ⟨m, rfl⟩ : ∃ m, k = m + 1 := ⟨k - 1, by omega⟩
  rw [List.replicate_succ', List.flatten_append, List.getLast?_append]
  simp [List.getLast?_eq_some_getLast hu]
/-- a period of the tenths is one of the phases -/
theorem per_up {W : List Ph} (g : GL W) (h1 : 1 < W.length) {k : Nat} {u : List Str} (hk : 1 ≤ k) (hu : u ≠ []) (e : ticks W = (List.replicate k u).flatten) : W = (List.replicate k (runs u)).flatten ∧ ticks (runs u) = u := by
  obtain ⟨a, b, c⟩ := runs_any u
  refine ⟨?_, c⟩
  have hne : runs u ≠ [] := by
    intro z
    rw [z] at c
    exact hu c.symm
  have hends : lastC (runs u) ≠ hd (runs u) := by
    rw [← ticks_lastC b, ← ticks_hd b, c, ← rep_last hk hu, ← rep_head hk hu, ← e, ticks_lastC g.pos, ticks_hd g.pos]
    exact g.ends h1
  obtain ⟨r1, _, _, _⟩ := rep_ok hne a hends k hk
  exact ticks_inj g.adj g.pos r1 (pos_rep b) (by rw [e, ticks_rep, c])
theorem perB_of {W Q : List Ph} {k : Nat} (hk : 1 ≤ k) (hQ : Q ≠ []) (e : W = (List.replicate k Q).flatten) : perB W (Q.length - 1) = true ∧ W.take Q.length = Q ∧ W.length = k * Q.length := by
  have hq := List.length_pos_iff.mpr hQ
  have hl : W.length = k * Q.length := by rw [e, rep_len]
  have ht : W.take Q.length = Q := by rw [e, rep_take hk]
  refine ⟨?_, ht, hl⟩
  unfold perB
  rw [show Q.length - 1 + 1 = Q.length by omega, hl, ht, Nat.mul_mod_left, Nat.mul_div_cancel _ hq, ← e]
  simp
theorem perR_of {row u : List Str} {k : Nat} (hk : 1 ≤ k) (hu : u ≠ []) (e : row = (List.replicate k u).flatten) : perR row (u.length - 1) = true := by
  have hq := List.length_pos_iff.mpr hu
  have hl : row.length = k * u.length := by rw [e, rep_len]
  have ht : row.take u.length = u := by rw [e, rep_take hk]
  unfold perR
  rw [show u.length - 1 + 1 = u.length by omega, hl, ht, Nat.mul_div_cancel _ hq, ← e]
  simp
/-- a period of the phases is one of the tenths -/
theorem perB_up {W : List Ph} (hp : Pos W) {j : Nat} (hj : j < W.length) (h : perB W j = true) : perR (ticks W) ((ticks (W.take (j + 1))).length - 1) = true ∧ 0 < (ticks (W.take (j + 1))).length := by
  unfold perB at h
  simp only [Bool.and_eq_true, decide_eq_true_eq] at h
  have hk : 1 ≤ W.length / (j + 1) := by
    rw [Nat.le_div_iff_mul_le (by omega)]
    omega
  have hlen : (W.take (j + 1)).length = j + 1 := by rw [List.length_take]; omega
  have hpt : Pos (W.take (j + 1)) := fun p hp' => hp p (List.mem_of_mem_take hp')
  have h2 := ticks_pos hpt
  have hne : ticks (W.take (j + 1)) ≠ [] := by
    intro z
    rw [z, hlen, List.length_nil] at h2
    omega
  refine ⟨perR_of hk hne ?_, List.length_pos_iff.mpr hne⟩
  rw [← ticks_rep, h.2]
theorem least_some {row : List Str} (h : row ≠ []) : ∃ i, (List.range row.length).find? (perR row) = some i := by
  have hl := List.length_pos_iff.mpr h
  cases e : (List.range row.length).find? (perR row) with
  | some i => exact ⟨i, rfl⟩
  | none =>
    rw [List.find?_range_eq_none] at e
    have := e (row.length - 1) (by omega)
    rw [perR_of (k := 1) (u := row) (by decide) h (by simp)] at this
    simp at this
theorem short_runs {W : List Ph} (g : GL W) (h1 : 1 < W.length) : shortP W = runs ((ticks W).take (leastN (ticks W))) := by
  have hp := g.pos
  have hrow : ticks W ≠ [] := by
    intro z
    have := ticks_pos hp
    rw [z, List.length_nil] at this
    omega
  obtain ⟨i, hi⟩ := least_some hrow
  have hS : leastN (ticks W) = i + 1 := by unfold leastN; rw [hi]
  rw [hS]
  rw [List.find?_range_eq_some] at hi
  obtain ⟨hp1, hp2, hmin⟩ := hi
  simp only [List.mem_range] at hp2
  have hpe := hp1
  unfold perR at hpe
  simp only [Bool.and_eq_true, decide_eq_true_eq] at hpe
  obtain ⟨hd1, hd2⟩ := hpe
  generalize hk : (ticks W).length / (i + 1) = k at *
  have hk1 : 1 ≤ k := by
    rw [← hk, Nat.le_div_iff_mul_le (by omega)]
    omega
  have hul : ((ticks W).take (i + 1)).length = i + 1 := by rw [List.length_take]; omega
  generalize hu : (ticks W).take (i + 1) = u at *
  have hune : u ≠ [] := by intro z; rw [z] at hul; simp at hul
  obtain ⟨eW, eT⟩ := per_up g h1 hk1 hune hd2
  have hQ : runs u ≠ [] := by
    intro z
    rw [z] at eT
    exact hune eT.symm
  generalize hQe : runs u = Q at *
  obtain ⟨b1, b2, b3⟩ := perB_of hk1 hQ eW
  have hql := List.length_pos_iff.mpr hQ
  -- no shorter form of the phases
  have low : ∀ j, j < W.length → perB W j = true → i + 1 ≤ (ticks (W.take (j + 1))).length := fun j hj hb => by
    obtain ⟨c1, c2⟩ := perB_up hp hj hb
    by_cases c : (ticks (W.take (j + 1))).length - 1 < i
    · have := hmin _ c
      rw [c1] at this
      simp at this
    · omega
  unfold shortP
  cases hf : (List.range (W.length - 1)).find? (perB W) with
  | none =>
    simp only
    rw [List.find?_range_eq_none] at hf
    by_cases c : Q.length - 1 < W.length - 1
    · have := hf _ c
      rw [b1] at this
      simp at this
    · have hQW : Q.length = W.length := by
        have : Q.length ≤ W.length := by
          rw [b3]
          exact Nat.le_mul_of_pos_left _ hk1
        omega
      rw [hQW, List.take_length] at b2
      exact b2
  | some j =>
    simp only
    rw [List.find?_range_eq_some] at hf
    obtain ⟨f1, f2, f3⟩ := hf
    simp only [List.mem_range] at f2
    have l1 := low j (by omega) f1
    -- j is Q's
    have le : j + 1 ≤ Q.length := by
      by_cases c : j + 1 ≤ Q.length
      · exact c
      · have := f3 (Q.length - 1) (by omega)
        rw [b1] at this
        simp at this
    by_cases c : j + 1 = Q.length
    · rw [c]; exact b2
    · exfalso
      have e1 : W.take (j + 1) = Q.take (j + 1) := by
        rw [← b2, List.take_take, Nat.min_eq_left le]
      have e2 : ticks Q = ticks (Q.take (j + 1)) ++ ticks (Q.drop (j + 1)) := by
        rw [← ticks_app, List.take_append_drop]
      have hpQ : Pos (Q.drop (j + 1)) := fun p hp' => by
        have : p ∈ Q := List.mem_of_mem_drop hp'
        rw [← b2] at this
        exact hp p (List.mem_of_mem_take this)
      have e3 := ticks_pos hpQ
      rw [List.length_drop] at e3
      have e4 := congrArg List.length e2
      rw [eT, hul, List.length_append, ← e1] at e4
      omega
end PH
namespace VL
open PySem PySem.Spec PyProof.Rows L2
/-! a value is equal to itself -/
mutual
theorem data_self : ∀ d : PyData, PyData.canLay0 d = true → PyData.eqv d d = true
  | .none, _ => by simp [PyData.eqv]
  | .bool b, _ => by simp [PyData.eqv]
  | .int b, _ => by simp [PyData.eqv]
  | .str b, _ => by simp [PyData.eqv]
  | .list xs, h => by simp only [PyData.eqv]; exact datas_self xs (by simpa [PyData.canLay0] using h)
  | .tuple xs, h => by simp only [PyData.eqv]; exact datas_self xs (by simpa [PyData.canLay0] using h)
  | .dict _, h => by simp [PyData.canLay0] at h
theorem datas_self : ∀ d : List PyData, PyData.canLayAll0 d = true → PyData.eqvAll d d = true
  | [], _ => by simp [PyData.eqvAll]
  | x :: xs, h => by
    simp only [PyData.canLayAll0, Bool.and_eq_true] at h
    simp only [PyData.eqvAll, Bool.and_eq_true]
    exact ⟨data_self x h.1, datas_self xs h.2⟩
end
/-- for i in range(n): if p(i): ..; break -/
theorem brk_loop {s : Env → Out} {p : Nat → Bool} {tgt n k : Nat} {I : Env → Prop} {f : Nat → Env} {r : Env} (h0 : I r) (turn : ∀ i r, i < n → I r → (p i = true → s (r.set tgt (.fz (.int (i : Int)))) = .brk (f i)) ∧ (p i = false → ∃ r', I r' ∧ s (r.set tgt (.fz (.int (i : Int)))) = .next r'))
    (hk : (List.range n).find? p = some k) : forL (tN tgt) s (rangeP 0 n) r = .next (f k) := by
  refine forL_by (Q := fun o => o = .next (f k)) (fun i r => I r ∧ ∀ j < i, p j = false) ⟨h0, fun j hj => by omega⟩ (fun i w r hv hi => ?_) (fun r hr => ?_)
  · obtain ⟨hi1, rfl⟩ := rangeP_get hv
    obtain ⟨hI, hno⟩ := hi
    obtain ⟨ty, tn⟩ := turn i r hi1 hI
    refine ⟨_, rfl, ?_⟩
    have e2 : setS [(tgt, PV.int (0 + (i : Int)))] r = r.set tgt (.fz (.int (i : Int))) := by simp
    rw [e2]
    cases hb : p i with
    | true =>
      refine .inr (.inl ⟨f i, ty hb, ?_⟩)
      rw [List.find?_range_eq_some] at hk
      have : k = i := by
        obtain ⟨a, b, c⟩ := hk
        by_cases h1 : k < i
        · rw [hno k h1] at a; cases a
        · by_cases h2 : i < k
          · have := c i h2; rw [hb] at this; simp at this
          · omega
      rw [this]
    | false =>
      obtain ⟨r', hI', e⟩ := tn hb
      refine .inl ⟨r', .inl e, hI', fun j hj => ?_⟩
      by_cases hji : j = i
      · subst hji; exact hb
      · exact hno j (by omega)
  · exfalso
    rw [List.find?_range_eq_some] at hk
    obtain ⟨a, b, _⟩ := hk
    have := hr.2 k (by simpa using b)
    rw [this] at a
    cases a
end VL
namespace PH
open PySem PySem.Spec PyProof.Rows L2 VL PF
end PH
namespace VL
open PySem PySem.Spec PyProof.Rows L2
/-! ### more rules for the plain part -/
section
variable {ρ : Ev} {r : Env}
/-! suites of clauses -/
def xxK (ρ : Env) : R PV → Out
  | .ok v => .ret v
  | _ => .stuck
@[simp] theorem xxK_o (ρ v) : xxK ρ (.ok v) = .ret v := rfl
def hdK (i c : Nat) (fs : List (Str × PV)) (ρ : Env) (g : Xx PV) (r : List Hd) : Option Bool → Out
  | some true => if i < ρ.length then xxK ρ (g c fs) else .stuck
  | some false => tryH c fs ρ r
  | none => .stuck
@[simp] theorem hdK_t (i c fs ρ g r) : hdK i c fs ρ g r (some true) = if i < ρ.length then xxK ρ (g c fs) else .stuck := rfl
@[simp] theorem hdK_f (i c fs ρ g r) : hdK i c fs ρ g r (some false) = tryH c fs ρ r := rfl
@[simp] theorem tryH_nm (c fs) (ρ : Env) (mt i g r) : tryH c fs ρ (.nm mt i g :: r) = hdK i c fs ρ g r (mt c) := by
  conv => lhs; unfold tryH
  unfold hdK
  cases mt c with
  | none => rfl
  | some b =>
    cases b
    · rfl
    · simp only
      split
      · cases g c fs <;> rfl
      · rfl
def suiK : Out → Out
  | .exc _ _ _ => .stuck
  | o => o
@[simp] theorem suiK_r (v) : suiK (.ret v) = .ret v := rfl
@[simp] theorem suiK_n (v) : suiK (.next v) = .next v := rfl
def hdU (c : Nat) (fs : List (Str × PV)) (ρ : Env) (s : Env → Out) (r : List Hd) : Option Bool → Out
  | some true => suiK (s ρ)
  | some false => tryH c fs ρ r
  | none => .stuck
@[simp] theorem hdU_t (c fs ρ s r) : hdU c fs ρ s r (some true) = suiK (s ρ) := rfl
@[simp] theorem hdU_f (c fs ρ s r) : hdU c fs ρ s r (some false) = tryH c fs ρ r := rfl
@[simp] theorem tryH_un (c fs) (ρ : Env) (mt s r) : tryH c fs ρ (.un mt s :: r) = hdU c fs ρ s r (mt c) := by
  conv => lhs; unfold tryH
  unfold hdU
  cases mt c with
  | none => rfl
  | some b =>
    cases b
    · rfl
    · simp only
      cases s ρ <;> rfl
@[simp] theorem xC_S (v c fs) : xC v c fs = .ok v := rfl
@[simp] theorem xF_S (c0 f fs) : xF c0 f c0 fs = opt (lkF f fs) := if_pos rfl
@[simp] theorem lkF_S (f k v r) : lkF f ((k, v) :: r) = if f = k then some v else lkF f r := rfl
@[simp] theorem xNil_S (c fs) : xNil c fs = .ok [] := rfl
@[simp] theorem xCons_S (f r c fs) : xCons f r c fs = (f c fs).bind fun x => (r c fs).bind fun xs => .ok (x :: xs) := rfl
@[simp] theorem xTup_S (r c fs) : xTup r c fs = (r c fs).bind gTupV := rfl
end
/-! loops over what is written -/
def forK (t : Tg) (s : Env → Out) (vs : List PV) : Out → Out
  | .next r => forL t s vs r
  | .cont r => forL t s vs r
  | .brk r => .next r
  | .ret v => .ret v
  | .exc c fs r => .exc c fs r
  | .stuck => .stuck
@[simp] theorem forK_n (t s vs r) : forK t s vs (.next r) = forL t s vs r := rfl
@[simp] theorem forK_c (t s vs r) : forK t s vs (.cont r) = forL t s vs r := rfl
@[simp] theorem forK_b (t s vs r) : forK t s vs (.brk r) = .next r := rfl
@[simp] theorem forK_r (t s vs v) : forK t s vs (.ret v) = .ret v := rfl
@[simp] theorem forK_e (t s vs c fs r) : forK t s vs (.exc c fs r) = .exc c fs r := rfl
def forT (t : Tg) (s : Env → Out) (vs : List PV) (r : Env) : Option As → Out
  | some as => forK t s vs (s (setS as r))
  | none => .stuck
@[simp] theorem forT_s (t s vs r as) : forT t s vs r (some as) = forK t s vs (s (setS as r)) := rfl
theorem forL_S (t : Tg) (s : Env → Out) (v : PV) (vs : List PV) (r : Env) : forL t s (v :: vs) r = forT t s vs r (t v) := by
  conv => lhs; unfold forL
  unfold forT forK
  cases t v with
  | none => rfl
  | some as => cases s (setS as r) <;> rfl
/-! lists as pictures -/
theorem cutP_map {α β : Type} (f : α → β) (xs : List α) (lo hi : Option Int) : cutP (xs.map f) lo hi = (cutP xs lo hi).map f := by
  unfold cutP
  rw [List.length_map, ← List.map_drop, ← List.map_take]
theorem slP_map {α : Type} (f : α → PV) (xs : List α) (lo hi : Option Int) : slP (.lst (xs.map f)) lo hi = some (.lst ((cutP xs lo hi).map f)) := by
  rw [slP_l, cutP_map]
theorem addP_map {α : Type} {f : α → PV} {a b : List α} (h : a.length + b.length ≤ 16777216) : addP (.lst (a.map f)) (.lst (b.map f)) = some (.lst ((a ++ b).map f)) := by
  rw [addP_l, if_pos (by rw [szl]; simpa using h), List.map_append]
theorem lenP_map {α : Type} (f : α → PV) (xs : List α) : lenP [.lst (xs.map f)] = some (.int (xs.length : Int)) := by
  rw [lenP_l, List.length_map]
theorem ixP_map {α : Type} {f : α → PV} {xs : List α} {i : Nat} (d : α) (h : i < xs.length) : ixP (.lst (xs.map f)) (.int (i : Int)) = some (f (xs.getD i d)) := by
  rw [ixP_l, PH.atI_map, PH.atI_getD d h]
  rfl
/-- pictures of a kind, compared -/
structure EqF {α : Type} [DecidableEq α] (f : α → PV) (P : α → Prop) (n : Nat) : Prop where
  tm : ∀ a, P a → PV.tm n (f a) = true
  eq : ∀ a b, PV.eqv (f a) (f b) = decide (a = b)
theorem EqF.lst {α : Type} [DecidableEq α] {f : α → PV} {P : α → Prop} {n : Nat} (h : EqF f P n) {xs : List α} (hx : ∀ a ∈ xs, P a) : PV.tm (n + 1) (.lst (xs.map f)) = true := by
  rw [tm_l, tms_iff]
  intro x hx'
  obtain ⟨a, ha, rfl⟩ := List.mem_map.mp hx'
  exact h.tm a (hx a ha)
theorem EqF.eqs {α : Type} [DecidableEq α] {f : α → PV} {P : α → Prop} {n : Nat} (h : EqF f P n) {xs ys : List α} (hx : ∀ a ∈ xs, P a) (hy : ∀ a ∈ ys, P a) : PV.eqv (.lst (xs.map f)) (.lst (ys.map f)) = decide (xs = ys) := by
  rw [eqv_ll]
  exact eqvs_map (n := n) (fun _ _ => trivial) h.eq (fun a ha => h.tm a (hx a ha)) (fun a ha => h.tm a (hy a ha))
@[simp] theorem at_0 {α : Type} (x : α) (xs : List α) : atI (x :: xs) 0 = some x := by
  have := atI_nat' (xs := x :: xs) (i := 0) (by simp)
  simpa using this
@[simp] theorem at_1 {α : Type} (x y : α) (xs : List α) : atI (x :: y :: xs) 1 = some y := by
  have := atI_nat' (xs := x :: y :: xs) (i := 1) (by simp)
  simpa using this
@[simp] theorem at_2 {α : Type} (x y z : α) (xs : List α) : atI (x :: y :: z :: xs) 2 = some z := by
  have := atI_nat' (xs := x :: y :: z :: xs) (i := 2) (by simp)
  simpa using this
@[simp] theorem at_3 {α : Type} (x y z u : α) (xs : List α) : atI (x :: y :: z :: u :: xs) 3 = some u := by
  have := atI_nat' (xs := x :: y :: z :: u :: xs) (i := 3) (by simp)
  simpa using this
theorem lcL_ex {γ δ : Type} {t : Tg} {e : Ex} {ρ : Ev} (enc : γ → PV) (out : δ → PV) (P : δ → Prop) : ∀ (xs : List γ), (∀ x ∈ xs, ∃ as d, t (enc x) = some as ∧ e (setE as ρ) = .ok (out d) ∧ P d) →
    ∃ ds : List δ, lcL t cYes e ρ (xs.map enc) = .ok (ds.map out) ∧ ds.length = xs.length ∧ ∀ d ∈ ds, P d
  | [], _ => ⟨[], rfl, rfl, by simp⟩
  | x :: xs, H => by
    obtain ⟨as, d, e1, e2, e3⟩ := H x List.mem_cons_self
    obtain ⟨ds, f1, f2, f3⟩ := lcL_ex enc out P xs fun y hy => H y (List.mem_cons_of_mem _ hy)
    refine ⟨d :: ds, ?_, by simp [f2], fun y hy => ?_⟩
    · simp only [List.map_cons, lcL, e1, cYes_S, e2, f1]
    · rcases List.mem_cons.mp hy with h | h
      · rw [h]; exact e3
      · exact f3 y h
/-! loops -/
/-- for x in xs: g := f g x -/
theorem forL_fold {β γ : Type} {t : Tg} {s : Env → Out} {enc : β → PV} {f : γ → β → γ} (R : γ → Env → Prop) {xs : List β} {g0 : γ} {r0 : Env} (h0 : R g0 r0)
    (turn : ∀ (i : Nat) (x : β) (g : γ) (r : Env), xs[i]? = some x → g = (xs.take i).foldl f g0 → R g r → ∃ as r', t (enc x) = some as ∧ (s (setS as r) = .next r' ∨ s (setS as r) = .cont r') ∧ R (f g x) r') :
    ∃ r', forL t s (xs.map enc) r0 = .next r' ∧ R (xs.foldl f g0) r' := by
  refine forL_by (Q := fun o => ∃ r', o = .next r' ∧ R (xs.foldl f g0) r') (fun i r => R ((xs.take i).foldl f g0) r) (by simpa using h0) (fun i v r hv hi => ?_) (fun r hr => ?_)
  · obtain ⟨x, hx, rfl⟩ := PH.map_get hv
    obtain ⟨as, r', e1, e2, e3⟩ := turn i x _ r hx rfl hi
    refine ⟨as, e1, .inl ⟨r', e2, ?_⟩⟩
    rw [PH.take_succ' hx, List.foldl_append]
    exact e3
  · rw [List.length_map, List.take_length] at hr
    exact ⟨r, rfl, hr⟩
/-- how a turn ends that ends the loop -/
def isEnd : Out → Prop
  | .ret _ => True
  | .exc _ _ _ => True
  | _ => False
/-- for x in xs: if p x: return .. -/
theorem forL_find {β : Type} {t : Tg} {s : Env → Out} {enc : β → PV} (R : Env → Prop) (p : β → Bool) (Q : β → Out → Prop) {xs : List β} {r0 : Env} (h0 : R r0)
    (turn : ∀ (i : Nat) (x : β) (r : Env), xs[i]? = some x → R r → ∃ as, t (enc x) = some as ∧ ((p x = true ∧ isEnd (s (setS as r)) ∧ Q x (s (setS as r))) ∨ (p x = false ∧ ∃ r', (s (setS as r) = .next r' ∨ s (setS as r) = .cont r') ∧ R r'))) :
    (∃ x, xs.find? p = some x ∧ Q x (forL t s (xs.map enc) r0)) ∨ (xs.find? p = none ∧ ∃ r', forL t s (xs.map enc) r0 = .next r' ∧ R r') := by
  refine forL_by (Q := fun o => (∃ x, xs.find? p = some x ∧ Q x o) ∨ (xs.find? p = none ∧ ∃ r', o = .next r' ∧ R r')) (fun i r => R r ∧ ∀ x ∈ xs.take i, p x = false) ⟨h0, by simp⟩ (fun i v r hv hi => ?_) (fun r hr => ?_)
  · obtain ⟨x, hx, rfl⟩ := PH.map_get hv
    obtain ⟨as, e1, h⟩ := turn i x r hx hi.1
    refine ⟨as, e1, ?_⟩
    rcases h with ⟨hp, he, hq⟩ | ⟨hp, r', e2, e3⟩
    · have hf : xs.find? p = some x := by
        have hi1 : i < xs.length := by
          rcases Nat.lt_or_ge i xs.length with h | h
          · exact h
          · rw [List.getElem?_eq_none h] at hx; cases hx
        have e : xs = xs.take i ++ x :: xs.drop (i + 1) := by
          rw [List.getElem?_eq_getElem hi1] at hx
          cases hx
          rw [List.getElem_cons_drop, List.take_append_drop]
        rw [e, List.find?_append, List.find?_eq_none.mpr (fun y hy => by rw [hi.2 y hy]; simp)]
        simp [hp]
      cases ho : s (setS as r) with
      | ret v => rw [ho] at hq; exact .inr (.inr (.inl ⟨v, rfl, .inl ⟨x, hf, hq⟩⟩))
      | exc c fs r' => rw [ho] at hq; exact .inr (.inr (.inr ⟨c, fs, r', rfl, .inl ⟨x, hf, hq⟩⟩))
      | next _ => rw [ho] at he; exact he.elim
      | cont _ => rw [ho] at he; exact he.elim
      | brk _ => rw [ho] at he; exact he.elim
      | stuck => rw [ho] at he; exact he.elim
    · refine .inl ⟨r', e2, e3, fun y hy => ?_⟩
      rw [PH.take_succ' hx, List.mem_append] at hy
      rcases hy with hy | hy
      · exact hi.2 y hy
      · rw [List.mem_singleton] at hy; subst hy; exact hp
  · rw [List.length_map, List.take_length] at hr
    exact .inr ⟨List.find?_eq_none.mpr fun y hy => by rw [hr.2 y hy]; simp, r, rfl, hr.1⟩
theorem rangeP_map (n : Nat) : rangeP 0 n = (List.range n).map fun (i : Nat) => PV.int ((i : Nat) : Int) := by
  unfold rangeP
  refine List.map_congr_left fun i _ => ?_
  rw [Int.zero_add]
theorem range_at {n i x : Nat} (h : (List.range n)[i]? = some x) : x = i ∧ i < n := by
  rcases Nat.lt_or_ge i n with h1 | h1
  · rw [List.getElem?_range h1] at h; cases h; exact ⟨rfl, h1⟩
  · rw [List.getElem?_eq_none (by simpa using h1)] at h; cases h
end VL
namespace WY
open PySem PySem.Spec PyProof.Rows L2 VL PF PH
/-! ### directions -/
abbrev Dr := Int × Int
def encD (d : Dr) : PV := .tup [.int d.1, .int d.2]
def Sm (d : Dr) : Prop := (-1000000000000 < d.1 ∧ d.1 < 1000000000000) ∧ (-1000000000000 < d.2 ∧ d.2 < 1000000000000)
end WY
namespace WY
/-! ### the law's own order of directions -/
def ag (a d : Dr) : Dr := (d.1 * a.2 - d.2 * a.1, d.1 * a.1 + d.2 * a.2)
end WY
namespace WY
open PySem PySem.Spec PyProof.Rows L2 VL PF PH
/-! ### checks of directions -/
def encDs (ds : List Dr) : PV := .lst (ds.map encD)
def bw (k : Int) : List (Str × PV) := [("number", .int k), ("label", .str "BadWay")]
/-- the first direction that is none -/
def badW (ds : List Dr) : Option Nat := (List.range ds.length).find? fun i => decide (ds.getD i (0, 0) = (0, 0))
def S_ways (g : List PV → R PV) : Prop := ∀ (ds : List Dr) (f : Int), ds.length ≤ 1000000 → g [encDs ds, .int f] = match badW ds with
  | some k => .exc 8 (bw (f + (k : Int)))
  | none => .ok .non
end WY
namespace WY
open PySem PySem.Spec PyProof.Rows L2 VL PF PH
/-! ### gcd_of -/
def S_gcd (g : List PV → R PV) : Prop := ∀ a b : Nat, g [.int (a : Int), .int (b : Int)] = .ok (.int (Nat.gcd a b : Int))
theorem gcd_step (a b : Nat) : Nat.gcd b (a % b) = Nat.gcd a b := by
  rw [Nat.gcd_comm a b, Nat.gcd_rec b a, Nat.gcd_comm]
theorem sp_gcd (F : Nat → List PV → R PV) : S_gcd fun us => outR (b_gcd_of F (startE 2 us)) := by
  intro a b
  have loop : sWhile [] (b_gcd_of_0 F) (b_gcd_of_1 F) [.fz (.int (a : Int)), .fz (.int (b : Int))] = .next [.fz (.int (Nat.gcd a b : Int)), .fz (.int 0)] := by
    refine sWhile_by (Q := fun o => o = .next [.fz (.int (Nat.gcd a b : Int)), .fz (.int 0)])
      (fun m r => ∃ x y : Nat, r = [.fz (.int (x : Int)), .fz (.int (y : Int))] ∧ m = y ∧ Nat.gcd x y = Nat.gcd a b) ?_ (m := b) ⟨a, b, rfl, rfl, rfl⟩
    rintro m r ⟨x, y, rfl, rfl, hg⟩
    by_cases c : 0 < m
    · have c' : (0 : Int) < (m : Int) := by omega
      refine .inr ⟨by simp -implicitDefEqProofs [b_gcd_of_0, c], .inl ⟨x % m, [.fz (.int (m : Int)), .fz (.int ((x : Int) % (m : Int)))], Nat.mod_lt _ c, .inl (by simp -implicitDefEqProofs [b_gcd_of_1, c]), m, x % m, rfl, rfl, by rw [gcd_step, hg]⟩⟩
    · have h0 : m = 0 := by omega
      subst h0
      refine .inl ⟨by simp -implicitDefEqProofs [b_gcd_of_0], ?_⟩
      rw [← hg, Nat.gcd_zero_right]
      rfl
  simp -implicitDefEqProofs [b_gcd_of, loop]
end WY
namespace WY
open PySem PySem.Spec PyProof.Rows L2 VL PF PH
/-! ### Euclid by turns: _law_lowest -/
end WY
namespace WY
open PySem PySem.Spec PyProof.Rows L2 VL PF PH
/-! ### between -/
/-- small enough for products -/
def Sx (d : Dr) : Prop := (-300000 ≤ d.1 ∧ d.1 ≤ 300000) ∧ (-300000 ≤ d.2 ∧ d.2 ≤ 300000)
theorem Sx.sm {d : Dr} (h : Sx d) : Sm d := by
  obtain ⟨⟨a, b⟩, c, e⟩ := h
  exact ⟨⟨by omega, by omega⟩, by omega, by omega⟩
theorem mul_bd {x y : Int} (hx : -300000 ≤ x ∧ x ≤ 300000) (hy : -300000 ≤ y ∧ y ≤ 300000) : -90000000000 ≤ x * y ∧ x * y ≤ 90000000000 := by
  have h : (x * y).natAbs ≤ 300000 * 300000 := by
    rw [Int.natAbs_mul]
    exact Nat.mul_le_mul (by omega) (by omega)
  omega
theorem Sx.ag {a d : Dr} (h : Sx a) (h' : Sx d) : Sm (WY.ag a d) := by
  have p1 := mul_bd h'.1 h.2
  have p2 := mul_bd h'.2 h.1
  have p3 := mul_bd h'.1 h.1
  have p4 := mul_bd h'.2 h.2
  unfold WY.ag Sm
  simp only
  omega
end WY
namespace WY
open PySem PySem.Spec PyProof.Rows L2 VL PF PH
/-! ### the order round from a direction -/
/-! the law's way of ordering -/
end WY
namespace WY
open PySem PySem.Spec PyProof.Rows L2 VL PF PH
/-! ### eighths -/
def ab (x : Int) : Int := if x < 0 then -x else x
theorem absP_ab (i : Int) : absP [.int i] = some (.int (ab i)) := rfl
/-! ### lowest terms -/
/-! ### places -/
def inPl (x : Int) : Bool := decide (-100000 ≤ x) && decide (x ≤ 100000)
end WY
namespace WY
open PySem PySem.Spec PyProof.Rows L2 VL PF PH
/-! ### the functions from outside -/
theorem badW_none {ws : List Dr} (h : ∀ w ∈ ws, w ≠ (0, 0)) : badW ws = none := by
  unfold badW
  rw [List.find?_range_eq_none]
  intro i hi
  have hm : ws.getD i (0, 0) ∈ ws := by
    rw [List.getD_eq_getElem?_getD, List.getElem?_eq_getElem hi]
    exact List.getElem_mem hi
  simpa using h _ hm
variable {F : Nat → List PV → R PV}
theorem ways_ok {g : List PV → R PV} (h : S_ways g) {ws : List Dr} {f : Int} (hl : ws.length ≤ 1000000) (hw : ∀ w ∈ ws, w ≠ (0, 0)) : g [.lst (ws.map encD), .int f] = .ok .non := by
  have := h ws f hl
  rw [badW_none hw] at this
  exact this
theorem w1 {g : List PV → R PV} (h : S_ways g) {a : Dr} {f : Int} (ha : a ≠ (0, 0)) : g [.lst [encD a], .int f] = .ok .non := ways_ok h (ws := [a]) (by simp) (by simpa using ha)
theorem w2 {g : List PV → R PV} (h : S_ways g) {a b : Dr} {f : Int} (ha : a ≠ (0, 0)) (hb : b ≠ (0, 0)) : g [.lst [encD a, encD b], .int f] = .ok .non := ways_ok h (ws := [a, b]) (by simp) (by simp [ha, hb])
theorem w3 {g : List PV → R PV} (h : S_ways g) {a b c : Dr} {f : Int} (ha : a ≠ (0, 0)) (hb : b ≠ (0, 0)) (hc : c ≠ (0, 0)) : g [.lst [encD a, encD b, encD c], .int f] = .ok .non := ways_ok h (ws := [a, b, c]) (by simp) (by simp [ha, hb, hc])
/-! the law's directions -/
end WY
namespace VL
open PySem PySem.Spec PyProof.Rows L2
/-! in of plain lists -/
end VL
namespace WY
open PySem PySem.Spec PyProof.Rows L2 VL PF PH
/-! ### lines -/
def sub (a b : Dr) : Dr := (a.1 - b.1, a.2 - b.2)
/-- near enough -/
def Nr (d : Dr) : Prop := (-150000 ≤ d.1 ∧ d.1 ≤ 150000) ∧ (-150000 ≤ d.2 ∧ d.2 ≤ 150000)
theorem Nr.sub {a b : Dr} (h : Nr a) (h' : Nr b) : Sx (WY.sub a b) := by
  obtain ⟨⟨a1, a2⟩, a3, a4⟩ := h
  obtain ⟨⟨b1, b2⟩, b3, b4⟩ := h'
  exact ⟨⟨by simp only [WY.sub]; omega, by simp only [WY.sub]; omega⟩, by simp only [WY.sub]; omega, by simp only [WY.sub]; omega⟩
/-- both numbers in range -/
def plB (d : Dr) : Bool := inPl d.1 && inPl d.2
/-! courses -/
theorem max_le (x y m : Int) : (decide ((if y > x then y else x) ≤ m)) = (decide (x ≤ m) && decide (y ≤ m)) := by
  rw [Bool.eq_iff_iff]
  simp only [Bool.and_eq_true, decide_eq_true_eq]
  split <;> omega
/-! the law's ships -/
/-! lowest terms of the law, of any sign -/
end WY
namespace WY
open PySem PySem.Spec PyProof.Rows L2 VL PF PH
variable {F : Nat → List PV → R PV}
/-- a line of the law, and a ship -/
structure Ln (f r : Dr) : Prop where
  ne : f ≠ r
  pf : plB f = true
  pr : plB r = true
  nf : Nr f
  nr : Nr r
theorem Ln.look {f r : Dr} (h : Ln f r) : Sx (sub r f) ∧ sub r f ≠ (0, 0) := ⟨h.nr.sub h.nf, fun z => h.ne (by
  obtain ⟨f1, f2⟩ := f
  obtain ⟨r1, r2⟩ := r
  simp only [sub, Prod.mk.injEq] at z ⊢
  omega)⟩
/-! crossing the line -/
/-! speeds on the line -/
theorem eD (x y : Int) : PV.tup [.int x, .int y] = encD (x, y) := rfl
/-! rocks -/
end WY
namespace WY
open PySem PySem.Spec PyProof.Rows L2 VL PF PH
/-! ### told values -/
end WY
namespace VL
open PySem PySem.Spec PyProof.Rows L2
/-! in of lists of tuples -/
end VL
namespace WY
open PySem PySem.Spec PyProof.Rows L2 VL PF PH
/-! ### crossings of lines -/
/-- a place told by two ratios -/
structure Q2 where
  x : Int
  u : Int
  y : Int
  v : Int
  deriving DecidableEq
/-! ### triangles -/
end WY
namespace PH
open PySem (Str)
/-! ### two periods (Fine and Wilf) -/
theorem per_mul {α : Type} {f : Nat → α} {p : Nat} (h : ∀ i, f (i + p) = f i) (i k : Nat) : f (i + k * p) = f i := by
  induction k with
  | zero => simp
  | succ k ih => rw [Nat.succ_mul, ← Nat.add_assoc, h, ih]
theorem per_mod {α : Type} {f : Nat → α} {p : Nat} (h : ∀ i, f (i + p) = f i) (i : Nat) : f i = f (i % p) := by
  have e := Nat.mod_add_div i p
  conv => lhs; rw [← e, Nat.mul_comm]
  exact per_mul h _ _
theorem fw {α : Type} : ∀ (n p q : Nat), p + q ≤ n → 0 < p → 0 < q → ∀ (f g : Nat → α), (∀ i, f (i + p) = f i) → (∀ i, g (i + q) = g i) → (∀ i < p + q - Nat.gcd p q, f i = g i) → ∀ i, f i = g i
  | 0, p, q, hn, hp, _, _, _, _, _, _ => by omega
  | n + 1, p, q, hn, hp, hq, f, g, hf, hg, h => by
    have hd1 := Nat.gcd_le_left q hp
    have hd2 := Nat.gcd_le_right p hq
    have hd0 := Nat.gcd_pos_of_pos_left q hp
    have step : ∀ (p q : Nat) (f g : Nat → α), p + q ≤ n + 1 → 0 < q → q < p → (∀ i, f (i + p) = f i) → (∀ i, g (i + q) = g i) → (∀ i < p + q - Nat.gcd p q, f i = g i) → ∀ i, f i = g i := by
      intro p q f g hn hq hlt hf hg h
      have hd2 := Nat.gcd_le_right p hq
      have hd0 := Nat.gcd_pos_of_pos_right p hq
      have hgc : Nat.gcd (p - q) q = Nat.gcd p q := Nat.gcd_sub_self_left (Nat.le_of_lt hlt)
      have hdv : Nat.gcd p q ≤ p - q := by rw [← hgc]; exact Nat.gcd_le_left q (by omega)
      -- f, cut to the period p - q
      have key : ∀ i < p - Nat.gcd p q, f i = f (i % (p - q)) := by
        intro i
        induction i using Nat.strongRecOn with
        | ind i ih =>
          intro hi
          by_cases c : i < p - q
          · rw [Nat.mod_eq_of_lt c]
          · have e1 : f i = f (i - (p - q)) := by
              have a1 : f (i - (p - q) + p) = f (i - (p - q)) := hf _
              have a2 : i - (p - q) + p = i + q := by omega
              rw [a2] at a1
              rw [← a1, h (i + q) (by omega), hg, h i (by omega)]
            rw [e1, ih (i - (p - q)) (by omega) (by omega)]
            rw [show i % (p - q) = (i - (p - q)) % (p - q) from by rw [Nat.mod_eq_sub_mod (by omega)]]
      have f' := fw n (p - q) q (by omega) (by omega) hq (fun i => f (i % (p - q))) g (fun i => by simp) hg (fun i hi => by
        rw [hgc] at hi
        have hi2 : i < p - Nat.gcd p q := by omega
        show f (i % (p - q)) = g i
        rw [← key i hi2, h i (by omega)])
      -- g has the period p, too
      have hgp : ∀ i, g (i + p) = g i := fun i => by
        have e : ∀ j, g (j + (p - q)) = g j := fun j => by rw [← f' (j + (p - q)), ← f' j]; simp
        have : i + p = i + (p - q) + q := by omega
        rw [this, hg, e]
      intro i
      rw [per_mod hf i, per_mod hgp i]
      exact h _ (by have := Nat.mod_lt i (show 0 < p by omega); omega)
    rcases Nat.lt_trichotomy p q with c | c | c
    · intro i
      exact (step q p g f (by omega) hp c hg hf (fun i hi => (h i (by rw [Nat.gcd_comm]; omega)).symm) i).symm
    · subst c
      intro i
      rw [per_mod hf i, per_mod hg i]
      exact h _ (by have := Nat.mod_lt i hp; rw [Nat.gcd_self]; omega)
    · exact step p q f g hn hq c hf hg h
/-! ### rows that go round -/
def cy (row : List Str) (t : Int) : Str := row.getD (t % (row.length : Int)).toNat ""
theorem cy_mod (row : List Str) (t : Int) : cy row (t % (row.length : Int)) = cy row t := by
  unfold cy
  rw [Int.emod_emod]
theorem cy_add (row : List Str) (t k : Int) : cy row (t + k * (row.length : Int)) = cy row t := by
  unfold cy
  rw [Int.add_mul_emod_self_right]
theorem cy_congr {row : List Str} {s t : Int} (h : s % (row.length : Int) = t % (row.length : Int)) : cy row s = cy row t := by
  unfold cy
  rw [h]
/-- for how long the same is shown -/
def sameS (A B : List Str) (s o : Int) : Option Nat := (List.range (A.length + B.length)).find? fun k => decide (cy A (s + (k : Int)) ≠ cy B (o + (k : Int)))
/-- what shows the same for so long, shows it for ever -/
theorem fw_cy {A B : List Str} {s o : Int} (hA : A ≠ []) (hB : B ≠ []) (h : ∀ k : Nat, k < A.length + B.length - Nat.gcd A.length B.length → cy A (s + (k : Int)) = cy B (o + (k : Int))) : ∀ k : Nat, cy A (s + (k : Int)) = cy B (o + (k : Int)) :=
  fw (A.length + B.length) A.length B.length (Nat.le_refl _) (List.length_pos_iff.mpr hA) (List.length_pos_iff.mpr hB) (fun k => cy A (s + (k : Int))) (fun k => cy B (o + (k : Int)))
    (fun i => by
      show cy A (s + ((i + A.length : Nat) : Int)) = cy A (s + (i : Int))
      have := cy_add A (s + (i : Int)) 1
      rw [Int.one_mul] at this
      rw [← this]
      congr 1
      omega)
    (fun i => by
      show cy B (o + ((i + B.length : Nat) : Int)) = cy B (o + (i : Int))
      have := cy_add B (o + (i : Int)) 1
      rw [Int.one_mul] at this
      rw [← this]
      congr 1
      omega) h
theorem same_none {A B : List Str} {s o : Int} (hA : A ≠ []) (hB : B ≠ []) : sameS A B s o = none ↔ ∀ k : Nat, cy A (s + (k : Int)) = cy B (o + (k : Int)) := by
  unfold sameS
  rw [List.find?_range_eq_none]
  constructor
  · intro h
    refine fw_cy hA hB fun k hk => ?_
    have := h k (by omega)
    simpa using this
  · intro h k _
    simp [h k]
theorem same_some {A B : List Str} {s o : Int} {n : Nat} (hA : A ≠ []) (hB : B ≠ []) : sameS A B s o = some n ↔ cy A (s + (n : Int)) ≠ cy B (o + (n : Int)) ∧ ∀ k : Nat, k < n → cy A (s + (k : Int)) = cy B (o + (k : Int)) := by
  constructor
  · intro h
    unfold sameS at h
    rw [List.find?_range_eq_some] at h
    obtain ⟨a, b, c⟩ := h
    exact ⟨by simpa using a, fun k hk => by have := c k hk; simpa using this⟩
  · rintro ⟨a, b⟩
    cases e : sameS A B s o with
    | none => exact absurd ((same_none hA hB).mp e n) a
    | some m =>
      unfold sameS at e
      rw [List.find?_range_eq_some] at e
      obtain ⟨a', b', c'⟩ := e
      congr 1
      rcases Nat.lt_trichotomy m n with h | h | h
      · have := b m h; simp [this] at a'
      · exact h
      · have := c' n h; simp [a] at this
end PH
namespace PH
open PySem PySem.Spec PyProof.Rows L2 VL PF
/-! ### where a moment lies -/
structure Lies (ps : List Ph) (t : Int) (a : Nat) (g : Int) : Prop where
  lt : a < ps.length
  g0 : 0 ≤ g
  g1 : g < (ph ps a).2
  at_ : ∃ k : Int, t = wh (ps.take a) + g + k * wh ps
theorem wh_app (a b : List Ph) : wh (a ++ b) = wh a + wh b := by
  show ((a ++ b).map (·.2)).sum = _
  rw [List.map_append, List.sum_append]
theorem wh_nn {ps : List Ph} (h : Pos ps) : 0 ≤ wh ps := by
  by_cases e : ps = []
  · subst e; decide
  · exact Int.le_of_lt (wh_pos h e)
theorem wh_succ {ps : List Ph} {a : Nat} (h : a < ps.length) : wh (ps.take (a + 1)) = wh (ps.take a) + (ph ps a).2 := by
  have : ps.take (a + 1) = ps.take a ++ [ph ps a] := take_succ' (by
    unfold ph
    rw [List.getD_eq_getElem?_getD, List.getElem?_eq_getElem h]
    rfl)
  rw [this, wh_app]
  show _ + ([ph ps a].map (·.2)).sum = _
  simp
theorem Pos.take {ps : List Ph} (h : Pos ps) (n : Nat) : Pos (ps.take n) := fun q hq => h q (List.mem_of_mem_take hq)
theorem Pos.drop {ps : List Ph} (h : Pos ps) (n : Nat) : Pos (ps.drop n) := fun q hq => h q (List.mem_of_mem_drop hq)
theorem wh_rest {ps : List Ph} (a : Nat) (hp : Pos ps) (h : a < ps.length) : wh (ps.take a) + (ph ps a).2 ≤ wh ps := by
  have e : wh ps = wh (ps.take (a + 1)) + wh (ps.drop (a + 1)) := by
    rw [← wh_app, List.take_append_drop]
  rw [wh_succ h] at e
  have := wh_nn (hp.drop (a + 1))
  omega
/-- the colour from here to the end of the phase -/
theorem Lies.col {ps : List Ph} {t : Int} {a : Nat} {g : Int} (hp : Pos ps) (h : Lies ps t a g) {j : Int} (j0 : 0 ≤ j) (j1 : g + j < (ph ps a).2) : cy (ticks ps) (t + j) = (ph ps a).1 := by
  obtain ⟨lt, g0, g1, k, e⟩ := h
  have hl : ((ticks ps).length : Int) = wh ps := ticks_len hp
  have hr := wh_rest a hp lt
  have ht := wh_nn (hp.take a)
  have hlt : ((ticks (ps.take a)).length : Int) = wh (ps.take a) := ticks_len (hp.take a)
  have em : (t + j) % ((ticks ps).length : Int) = wh (ps.take a) + g + j := by
    rw [hl, e, show wh (ps.take a) + g + k * wh ps + j = wh (ps.take a) + g + j + k * wh ps by omega, Int.add_mul_emod_self_right]
    exact Int.emod_eq_of_lt (by omega) (by omega)
  unfold cy
  rw [em]
  have es : ticks ps = ticks (ps.take a) ++ (List.replicate (ph ps a).2.toNat (ph ps a).1 ++ ticks (ps.drop (a + 1))) := by
    conv => lhs; rw [split_at lt]
    rw [ticks_app, ticks_cons]
  rw [es, List.getD_eq_getElem?_getD, List.getElem?_append_right (by omega), List.getElem?_append_left (by rw [List.length_replicate]; omega), List.getElem?_replicate, if_pos (by omega)]
  rfl
theorem Lies.here {ps : List Ph} {t : Int} {a : Nat} {g : Int} (hp : Pos ps) (h : Lies ps t a g) : cy (ticks ps) t = (ph ps a).1 := by
  have := h.col hp (j := 0) (by omega) (by have := h.g1; omega)
  rwa [Int.add_zero] at this
theorem Lies.on {ps : List Ph} {t : Int} {a : Nat} {g s : Int} (h : Lies ps t a g) (s0 : 0 ≤ s) (s1 : g + s < (ph ps a).2) : Lies ps (t + s) a (g + s) := by
  obtain ⟨lt, g0, g1, k, e⟩ := h
  exact ⟨lt, by omega, s1, k, by omega⟩
theorem Lies.next {ps : List Ph} {t : Int} {a : Nat} {g s : Int} (hp : Pos ps) (h : Lies ps t a g) (s1 : g + s = (ph ps a).2) : Lies ps (t + s) ((a + 1) % ps.length) 0 := by
  obtain ⟨lt, g0, g1, k, e⟩ := h
  have hpos : ∀ b, b < ps.length → 0 < (ph ps b).2 := fun b hb => by have := hp _ (ph_mem hb); omega
  by_cases c : a + 1 < ps.length
  · rw [Nat.mod_eq_of_lt c]
    exact ⟨c, Int.le_refl _, hpos _ c, k, by rw [wh_succ lt]; omega⟩
  · have ea : a + 1 = ps.length := by omega
    rw [ea, Nat.mod_self]
    refine ⟨by omega, Int.le_refl _, hpos _ (by omega), k + 1, ?_⟩
    have ew : wh ps = wh (ps.take a) + (ph ps a).2 := by
      rw [← wh_succ lt, ea, List.take_length]
    rw [List.take_zero, Int.add_mul]
    show t + s = 0 + 0 + (k * wh ps + 1 * wh ps)
    omega
theorem lies_place {ps : List Ph} (hp : Pos ps) (hne : ps ≠ []) (t : Int) : Lies ps t (place ps (t % wh ps)).1 (place ps (t % wh ps)).2 := by
  have hw := wh_pos hp hne
  obtain ⟨h1, h2, h3, h4⟩ := place_ok hp (Int.emod_nonneg t (by omega : wh ps ≠ 0)) (Int.emod_lt_of_pos t hw)
  refine ⟨h1, h2, h3, t / wh ps, ?_⟩
  have hlt : ((ticks (ps.take (place ps (t % wh ps)).1)).length : Int) = wh (ps.take (place ps (t % wh ps)).1) := ticks_len (hp.take _)
  have := Int.emod_add_mul_ediv t (wh ps)
  rw [Int.mul_comm] at this
  omega
/-! ### same_time -/
def S_same (g : List PV → R PV) : Prop := ∀ (ps qs : List Ph) (s o : Int), Pos ps → ps ≠ [] → Pos qs → qs ≠ [] → ps.length ≤ 1000 → qs.length ≤ 1000 → wh ps ≤ 1000000 → wh qs ≤ 1000000 → g [encPs ps, .int s, encPs qs, .int o] = .ok (oint (sameS (ticks ps) (ticks qs) s o))
end PH
namespace PH
open PySem PySem.Spec PyProof.Rows L2 VL PF WY
theorem ticks_ne {ps : List Ph} (hp : Pos ps) (h : ps ≠ []) : ticks ps ≠ [] := fun z => by
  have h1 := ticks_len hp
  have h2 := wh_pos hp h
  rw [z] at h1
  have : ((([] : List Str).length : Nat) : Int) = 0 := rfl
  have : ((ps.map (·.2)).sum : Int) = wh ps := rfl
  omega
theorem sp_same {F : Nat → List PV → R PV} (h1 : S_whole (F 650)) (h2 : S_gcd (F 330)) (h3 : S_place (F 502)) : S_same fun us => outR (b_same_time F (startE 11 us)) := by
  intro ps qs s o hp np hq nq lp lq wp wq
  have hA := ticks_ne hp np
  have hB := ticks_ne hq nq
  have lA : ((ticks ps).length : Int) = wh ps := ticks_len hp
  have lB : ((ticks qs).length : Int) = wh qs := ticks_len hq
  have pA := wh_pos hp np
  have pB := wh_pos hq nq
  have e1 := h1 ps (by omega)
  have e2 := h1 qs (by omega)
  have e3 := h2 (ticks ps).length (ticks qs).length
  rw [lA, lB] at e3
  have e4 := h3 ps s hp np (by omega)
  have e5 := h3 qs o hq nq (by omega)
  have gle := Nat.gcd_le_left (ticks qs).length (show 0 < (ticks ps).length by omega)
  obtain ⟨L, hL⟩ : ∃ L, L = (ticks ps).length + (ticks qs).length - Nat.gcd (ticks ps).length (ticks qs).length := ⟨_, rfl⟩
  have hLi : wh ps + wh qs - (Nat.gcd (ticks ps).length (ticks qs).length : Int) = (L : Int) := by omega
  have L0 : 0 < L := by omega
  have loop : ∃ O, sWhile [] (b_same_time_0 F) (b_same_time_1 F) [.fz (encPs ps), .fz (.int s), .fz (encPs qs), .fz (.int o), .fz (.int (L : Int)), .fz (.int ((place ps (s % wh ps)).1 : Int)), .fz (.int (place ps (s % wh ps)).2), .fz (.int ((place qs (o % wh qs)).1 : Int)), .fz (.int (place qs (o % wh qs)).2), .fz (.int 0), .no] = O ∧
      ((∃ (n : Nat) (x5 x6 x7 x8 x10 : Sl), O = .next [.fz (encPs ps), .fz (.int s), .fz (encPs qs), .fz (.int o), .fz (.int (L : Int)), x5, x6, x7, x8, .fz (.int (n : Int)), x10] ∧ sameS (ticks ps) (ticks qs) s o = some n) ∨ (O = .ret .non ∧ sameS (ticks ps) (ticks qs) s o = none)) := by
    refine ⟨_, rfl, ?_⟩
    refine sWhile_by (Q := fun O => (∃ (n : Nat) (x5 x6 x7 x8 x10 : Sl), O = .next [.fz (encPs ps), .fz (.int s), .fz (encPs qs), .fz (.int o), .fz (.int (L : Int)), x5, x6, x7, x8, .fz (.int (n : Int)), x10] ∧ sameS (ticks ps) (ticks qs) s o = some n) ∨ (O = .ret .non ∧ sameS (ticks ps) (ticks qs) s o = none))
      (fun m r => ∃ (a b tm : Nat) (g h : Int) (x : Sl), r = [.fz (encPs ps), .fz (.int s), .fz (encPs qs), .fz (.int o), .fz (.int (L : Int)), .fz (.int (a : Int)), .fz (.int g), .fz (.int (b : Int)), .fz (.int h), .fz (.int (tm : Int)), x] ∧ Lies ps (s + (tm : Int)) a g ∧ Lies qs (o + (tm : Int)) b h ∧ (∀ k : Nat, k < tm → cy (ticks ps) (s + (k : Int)) = cy (ticks qs) (o + (k : Int))) ∧ tm < L ∧ m = L - tm)
      ?_ (m := L) ⟨_, _, 0, _, _, _, rfl, by simpa using lies_place hp np s, by simpa using lies_place hq nq o, fun k hk => by omega, L0, by omega⟩
    rintro m r ⟨a, b, tm, g, h, x, rfl, la, lb, hag, htL, hm⟩
    have ca := la.here hp
    have cb := lb.here hq
    have xa := encPs_ix la.lt
    have xb := encPs_ix lb.lt
    have ga := la.g1
    have gb := lb.g1
    have ga0 := la.g0
    have gb0 := lb.g0
    by_cases c : (ph ps a).1 = (ph qs b).1
    · refine .inr ⟨by simp -implicitDefEqProofs [b_same_time_0, xa, xb, encP_ix0, c], ?_⟩
      -- the step
      obtain ⟨st, hst⟩ : ∃ st : Nat, (if (ph qs b).2 - h < (ph ps a).2 - g then (ph qs b).2 - h else (ph ps a).2 - g) = (st : Int) := ⟨(if (ph qs b).2 - h < (ph ps a).2 - g then (ph qs b).2 - h else (ph ps a).2 - g).toNat, by split <;> omega⟩
      have st1 : 1 ≤ st := by split at hst <;> omega
      have sa : g + (st : Int) ≤ (ph ps a).2 := by split at hst <;> omega
      have sb : h + (st : Int) ≤ (ph qs b).2 := by split at hst <;> omega
      have hag2 : ∀ k : Nat, k < tm + st → cy (ticks ps) (s + (k : Int)) = cy (ticks qs) (o + (k : Int)) := fun k hk => by
        by_cases ck : k < tm
        · exact hag k ck
        · have e6 := la.col hp (j := (k : Int) - tm) (by omega) (by omega)
          have e7 := lb.col hq (j := (k : Int) - tm) (by omega) (by omega)
          rw [show s + (tm : Int) + ((k : Int) - tm) = s + (k : Int) by omega] at e6
          rw [show o + (tm : Int) + ((k : Int) - tm) = o + (k : Int) by omega] at e7
          rw [e6, e7, c]
      have mn : minP [.int ((ph ps a).2 - g), .int ((ph qs b).2 - h)] = some (.int (st : Int)) := by rw [minP_i, hst]
      have lenA : lenP [encPs ps] = some (.int (ps.length : Int)) := encPs_len ps
      have lenB : lenP [encPs qs] = some (.int (qs.length : Int)) := encPs_len qs
      have pla : 0 < ps.length := by have := la.lt; omega
      have plb : 0 < qs.length := by have := lb.lt; omega
      by_cases cL : (L : Int) ≤ (tm : Int) + st
      · refine .inr (.inr (.inl ⟨.non, by simp -implicitDefEqProofs [b_same_time_1, xa, xb, encP_ix1, mn, -minP_i, cL], .inr ⟨rfl, ?_⟩⟩))
        rw [same_none hA hB]
        exact fw_cy hA hB fun k hk => hag2 k (by omega)
      · have ett : (tm : Int) + (st : Int) = ((tm + st : Nat) : Int) := rfl
        have t1 : s + (tm : Int) + (st : Int) = s + ((tm + st : Nat) : Int) := by omega
        have t2 : o + (tm : Int) + (st : Int) = o + ((tm + st : Nat) : Int) := by omega
        by_cases ea : g + (st : Int) = (ph ps a).2
        · have la2 := la.next hp ea
          rw [t1] at la2
          by_cases eb : h + (st : Int) = (ph qs b).2
          · have lb2 := lb.next hq eb
            rw [t2] at lb2
            refine .inl ⟨L - (tm + st), [.fz (encPs ps), .fz (.int s), .fz (encPs qs), .fz (.int o), .fz (.int (L : Int)), .fz (.int (((a : Int) + 1) % (ps.length : Int))), .fz (.int 0), .fz (.int (((b : Int) + 1) % (qs.length : Int))), .fz (.int 0), .fz (.int ((tm : Int) + (st : Int))), .fz (.int (st : Int))], by omega, .inl ?_, _, _, tm + st, _, _, .fz (.int (st : Int)), by simp, la2, lb2, hag2, by omega, rfl⟩
            simp -implicitDefEqProofs [b_same_time_1, xa, xb, encP_ix1, mn, -minP_i, cL, ea, eb, lenA, lenB, pla, plb]
          · have lb2 := lb.on (s := (st : Int)) (by omega) (by omega)
            rw [t2] at lb2
            refine .inl ⟨L - (tm + st), [.fz (encPs ps), .fz (.int s), .fz (encPs qs), .fz (.int o), .fz (.int (L : Int)), .fz (.int (((a : Int) + 1) % (ps.length : Int))), .fz (.int 0), .fz (.int (b : Int)), .fz (.int (h + st)), .fz (.int ((tm : Int) + (st : Int))), .fz (.int (st : Int))], by omega, .inl ?_, _, _, tm + st, _, _, .fz (.int (st : Int)), by simp, la2, lb2, hag2, by omega, rfl⟩
            simp -implicitDefEqProofs [b_same_time_1, xa, xb, encP_ix1, mn, -minP_i, cL, ea, eb, lenA, lenB, pla, plb]
        · have la2 := la.on (s := (st : Int)) (by omega) (by omega)
          rw [t1] at la2
          have eb : h + (st : Int) = (ph qs b).2 := by split at hst <;> omega
          have lb2 := lb.next hq eb
          rw [t2] at lb2
          refine .inl ⟨L - (tm + st), [.fz (encPs ps), .fz (.int s), .fz (encPs qs), .fz (.int o), .fz (.int (L : Int)), .fz (.int (a : Int)), .fz (.int (g + st)), .fz (.int (((b : Int) + 1) % (qs.length : Int))), .fz (.int 0), .fz (.int ((tm : Int) + (st : Int))), .fz (.int (st : Int))], by omega, .inl ?_, _, _, tm + st, _, _, .fz (.int (st : Int)), by simp, la2, lb2, hag2, by omega, rfl⟩
          simp -implicitDefEqProofs [b_same_time_1, xa, xb, encP_ix1, mn, -minP_i, cL, ea, eb, lenA, lenB, pla, plb]
    · refine .inl ⟨by simp -implicitDefEqProofs [b_same_time_0, xa, xb, encP_ix0, c], .inl ⟨tm, _, _, _, _, _, rfl, ?_⟩⟩
      rw [same_some hA hB, ca, cb]
      exact ⟨c, hag⟩
  obtain ⟨O, eO, hO⟩ := loop
  rcases hO with ⟨n, x5, x6, x7, x8, x10, rfl, hs⟩ | ⟨rfl, hs⟩
  · rw [hs]
    simp -implicitDefEqProofs [b_same_time, e1, e2, e3, hLi, e4, e5, tT_plV, eO, oint]
  · rw [hs]
    simp -implicitDefEqProofs [b_same_time, e1, e2, e3, hLi, e4, e5, tT_plV, eO, oint]
end PH
namespace PH
open PySem (Str)
/-! ### windows -/
/-- the times at which phases begin -/
def begs (ps : List Ph) : List Int := (List.range ps.length).map fun i => wh (ps.take i)
theorem begs_mem {ps : List Ph} {a : Nat} (h : a < ps.length) : wh (ps.take a) ∈ begs ps := List.mem_map.mpr ⟨a, by simpa using h, rfl⟩
theorem begs_bd {ps : List Ph} (hp : Pos ps) {x : Int} (h : x ∈ begs ps) : 0 ≤ x ∧ x < wh ps := by
  unfold begs at h
  obtain ⟨a, ha, rfl⟩ := List.mem_map.mp h
  have ha : a < ps.length := by simpa using ha
  have h1 := wh_rest a hp ha
  have h2 := hp _ (ph_mem ha)
  exact ⟨wh_nn (hp.take a), by omega⟩
theorem lies_any {ps : List Ph} (hp : Pos ps) (hne : ps ≠ []) (t : Int) : ∃ a g, Lies ps t a g := ⟨_, _, lies_place hp hne t⟩
theorem lies_back {ps : List Ph} {t : Int} {a : Nat} {g s : Int} (h : Lies ps t a g) (s0 : 0 ≤ s) (s1 : s ≤ g) : Lies ps (t - s) a (g - s) := by
  obtain ⟨lt, g0, g1, k, e⟩ := h
  exact ⟨lt, by omega, by omega, k, by omega⟩
theorem lies_mod {ps : List Ph} (hp : Pos ps) {t : Int} {a : Nat} {g : Int} (h : Lies ps t a g) : t % wh ps = wh (ps.take a) + g := by
  obtain ⟨lt, g0, g1, k, e⟩ := h
  have hr := wh_rest a hp lt
  have ht := wh_nn (hp.take a)
  rw [e, Int.add_mul_emod_self_right]
  exact Int.emod_eq_of_lt (by omega) (by omega)
/-- a change of colour is the beginning of a phase -/
theorem change_beg {ps : List Ph} (hp : Pos ps) (hne : ps ≠ []) {x : Int} (h : cy (ticks ps) (x - 1) ≠ cy (ticks ps) x) : x % wh ps ∈ begs ps := by
  obtain ⟨a, g, l⟩ := lies_any hp hne x
  by_cases c : 0 < g
  · have l1 := lies_back l (s := 1) (by omega) (by omega)
    exact absurd (by rw [l1.here hp, l.here hp]) h
  · have g0 : g = 0 := by have := l.g0; omega
    subst g0
    rw [lies_mod hp l, Int.add_zero]
    exact begs_mem l.lt
theorem single_const {ps : List Ph} (hp : Pos ps) (h1 : ps.length = 1) (x y : Int) : cy (ticks ps) x = cy (ticks ps) y := by
  have hne : ps ≠ [] := fun z => by rw [z] at h1; cases h1
  obtain ⟨a, g, l⟩ := lies_any hp hne x
  obtain ⟨b, k, m⟩ := lies_any hp hne y
  rw [l.here hp, m.here hp]
  have := l.lt
  have := m.lt
  rw [show a = b by omega]
/-- how long the same was shown ahead of two moments -/
def backS (A B : List Str) (s o : Int) : Option Nat := sameS A.reverse B.reverse (-s) (-o)
theorem cy_rev {A : List Str} (hA : A ≠ []) (t : Int) : cy A.reverse t = cy A (-t - 1) := by
  have hl := List.length_pos_iff.mpr hA
  unfold cy
  rw [List.length_reverse]
  have h0 := Int.emod_nonneg t (show (A.length : Int) ≠ 0 by omega)
  have h1 := Int.emod_lt_of_pos t (show (0 : Int) < A.length by omega)
  have e : (-t - 1) % (A.length : Int) = (A.length : Int) - 1 - t % (A.length : Int) := by
    have ed := Int.emod_add_mul_ediv t (A.length : Int)
    have : -t - 1 = ((A.length : Int) - 1 - t % (A.length : Int)) + (-(t / (A.length : Int)) - 1) * (A.length : Int) := by
      rw [Int.sub_mul, Int.neg_mul, Int.one_mul, Int.mul_comm (t / _)]
      omega
    rw [this, Int.add_mul_emod_self_right]
    exact Int.emod_eq_of_lt (by omega) (by omega)
  rw [e, List.getD_eq_getElem?_getD, List.getD_eq_getElem?_getD, List.getElem?_reverse (by omega)]
  congr 2
  omega
theorem rev_ne {A : List Str} (h : A ≠ []) : A.reverse ≠ [] := by simpa using h
theorem back_none {A B : List Str} (hA : A ≠ []) (hB : B ≠ []) {s o : Int} : backS A B s o = none ↔ sameS A B s o = none := by
  have e : ∀ (A : List Str) (_ : A ≠ []) (s : Int) (k : Nat), cy A.reverse (-s + (k : Int)) = cy A (s - 1 - (k : Int)) := fun A h s k => by
    rw [cy_rev h]
    congr 1
    omega
  unfold backS
  rw [same_none (rev_ne hA) (rev_ne hB), same_none hA hB]
  simp only [e A hA, e B hB]
  have pA := List.length_pos_iff.mpr hA
  have pB := List.length_pos_iff.mpr hB
  -- both go round: far enough ahead is far enough behind
  have far : ∀ (x y : Int) (k : Nat), (∀ j : Nat, cy A (x + (j : Int)) = cy B (y + (j : Int))) → cy A (x - 1 - (k : Int)) = cy B (y - 1 - (k : Int)) := by
    intro x y k h
    have h2 := h ((k + 1) * A.length * B.length - 1 - k)
    have hge : k + 1 ≤ (k + 1) * A.length * B.length := by
      have h1 : k + 1 ≤ (k + 1) * A.length := Nat.le_mul_of_pos_right _ pA
      exact Nat.le_trans h1 (Nat.le_mul_of_pos_right _ pB)
    rw [← cy_add A (x - 1 - (k : Int)) (((k + 1) * B.length : Nat) : Int), ← cy_add B (y - 1 - (k : Int)) (((k + 1) * A.length : Nat) : Int)]
    have e1 : (((k + 1) * B.length : Nat) : Int) * (A.length : Int) = (((k + 1) * A.length * B.length : Nat) : Int) := by
      rw [← Int.natCast_mul]
      congr 1
      rw [Nat.mul_assoc, Nat.mul_assoc, Nat.mul_comm B.length]
    have e2 : (((k + 1) * A.length : Nat) : Int) * (B.length : Int) = (((k + 1) * A.length * B.length : Nat) : Int) := by rw [← Int.natCast_mul]
    rw [e1, e2]
    generalize (k + 1) * A.length * B.length = N at *
    have f1 : x - 1 - (k : Int) + (N : Int) = x + ((N - 1 - k : Nat) : Int) := by omega
    have f2 : y - 1 - (k : Int) + (N : Int) = y + ((N - 1 - k : Nat) : Int) := by omega
    rw [f1, f2]
    exact h2
  constructor
  · intro h k
    have h2 := h ((k + 1) * A.length * B.length - 1 - k)
    have hge : k + 1 ≤ (k + 1) * A.length * B.length := by
      have h1 : k + 1 ≤ (k + 1) * A.length := Nat.le_mul_of_pos_right _ pA
      exact Nat.le_trans h1 (Nat.le_mul_of_pos_right _ pB)
    rw [← cy_add A (s + (k : Int)) (-(((k + 1) * B.length : Nat) : Int)), ← cy_add B (o + (k : Int)) (-(((k + 1) * A.length : Nat) : Int))]
    have e1 : -(((k + 1) * B.length : Nat) : Int) * (A.length : Int) = -(((k + 1) * A.length * B.length : Nat) : Int) := by
      rw [Int.neg_mul, ← Int.natCast_mul]
      congr 2
      rw [Nat.mul_assoc, Nat.mul_assoc, Nat.mul_comm B.length]
    have e2 : -(((k + 1) * A.length : Nat) : Int) * (B.length : Int) = -(((k + 1) * A.length * B.length : Nat) : Int) := by rw [Int.neg_mul, ← Int.natCast_mul]
    rw [e1, e2]
    generalize (k + 1) * A.length * B.length = N at *
    have f1 : s + (k : Int) + -(N : Int) = s - 1 - ((N - 1 - k : Nat) : Int) := by omega
    have f2 : o + (k : Int) + -(N : Int) = o - 1 - ((N - 1 - k : Nat) : Int) := by omega
    rw [f1, f2]
    exact h2
  · intro h k
    exact far s o k h
/-- what two rows show: they are the same at some shift -/
def Shift (A B : List Str) : Prop := ∃ s o : Int, sameS A B s o = none
theorem same_shift {A B : List Str} (hA : A ≠ []) (hB : B ≠ []) {s o : Int} (h : sameS A B s o = none) : ∀ t : Int, cy A t = cy B (t - s + o) := by
  intro t
  by_cases c : s ≤ t
  · have := (same_none hA hB).mp h (t - s).toNat
    rw [show s + ((t - s).toNat : Int) = t by omega, show o + ((t - s).toNat : Int) = t - s + o by omega] at this
    exact this
  · have h2 := (back_none hA hB).mpr h
    have e : ∀ k : Nat, cy A (s - 1 - (k : Int)) = cy B (o - 1 - (k : Int)) := by
      have e : ∀ (A : List Str) (_ : A ≠ []) (s : Int) (k : Nat), cy A.reverse (-s + (k : Int)) = cy A (s - 1 - (k : Int)) := fun A h s k => by
        rw [cy_rev h]
        congr 1
        omega
      unfold backS at h2
      rw [same_none (rev_ne hA) (rev_ne hB)] at h2
      simpa only [e A hA, e B hB] using h2
    have := e (s - 1 - t).toNat
    rw [show s - 1 - ((s - 1 - t).toNat : Int) = t by omega, show o - 1 - ((s - 1 - t).toNat : Int) = t - s + o by omega] at this
    exact this
/-! ### the longest window -/
abbrev Wn := Int × Int × Int
structure Best (A B : List Str) (w : Wn) : Prop where
  i0 : 0 ≤ w.2.1 ∧ w.2.1 < A.length
  j0 : 0 ≤ w.2.2 ∧ w.2.2 < B.length
  val : ∃ n : Nat, sameS A B w.2.1 w.2.2 = some n ∧ w.1 = n
  most : ∀ (i j : Int) (n : Nat), sameS A B i j = some n → (n : Int) ≤ w.1
  least : ∀ (i j : Int) (n : Nat), 0 ≤ i → i < A.length → 0 ≤ j → j < B.length → sameS A B i j = some n → (n : Int) = w.1 → w.2.1 < i ∨ (w.2.1 = i ∧ w.2.2 ≤ j)
theorem Best.uniq {A B : List Str} {v w : Wn} (h : Best A B v) (k : Best A B w) : v = w := by
  obtain ⟨n, hn, en⟩ := h.val
  obtain ⟨m, km, em⟩ := k.val
  have a1 := h.most _ _ _ km
  have a2 := k.most _ _ _ hn
  have e : v.1 = w.1 := by omega
  have b1 := h.least _ _ _ k.i0.1 k.i0.2 k.j0.1 k.j0.2 km (by omega)
  have b2 := k.least _ _ _ h.i0.1 h.i0.2 h.j0.1 h.j0.2 hn (by omega)
  obtain ⟨v1, v2, v3⟩ := v
  obtain ⟨w1, w2, w3⟩ := w
  simp only at *
  have : v2 = w2 := by omega
  have : v3 = w3 := by omega
  subst e
  simp_all
theorem same_mod {A B : List Str} (s o : Int) : sameS A B (s % A.length) (o % B.length) = sameS A B s o := by
  unfold sameS
  congr 1
  funext k
  have e1 : cy A (s % A.length + (k : Int)) = cy A (s + (k : Int)) := cy_congr (by rw [Int.emod_add_emod])
  have e2 : cy B (o % B.length + (k : Int)) = cy B (o + (k : Int)) := cy_congr (by rw [Int.emod_add_emod])
  rw [e1, e2]
end PH
namespace PH
open PySem (Str)
/-! ### the ways of looking for it -/
end PH
namespace PH
open PySem PySem.Spec PyProof.Rows L2 VL PF WY
variable {F : Nat → List PV → R PV}
def encI (xs : List Int) : PV := .lst (xs.map .int)
def S_changes (g : List PV → R PV) : Prop := ∀ ps : List Ph, ps.length ≤ 1000 → g [encPs ps] = .ok (encI (begs ps))
theorem begs_fold (ps : List Ph) : ps.foldl (fun (st : List Int × Int) p => (st.1 ++ [st.2], st.2 + p.2)) ([], 0) = (begs ps, wh ps) := by
  have gen : ∀ (n : Nat), n ≤ ps.length → (ps.take n).foldl (fun (st : List Int × Int) p => (st.1 ++ [st.2], st.2 + p.2)) ([], 0) = ((List.range n).map (fun i => wh (ps.take i)), wh (ps.take n)) := by
    intro n
    induction n with
    | zero => intro _; rfl
    | succ n ih =>
      intro hn
      have : ps.take (n + 1) = ps.take n ++ [ph ps n] := take_succ' (by
        unfold ph
        rw [List.getD_eq_getElem?_getD, List.getElem?_eq_getElem hn]
        rfl)
      rw [wh_succ hn, this, List.foldl_append, ih (by omega), List.range_succ, List.map_append]
      rfl
  have := gen ps.length (Nat.le_refl _)
  rw [List.take_length] at this
  exact this
theorem sp_changes (F : Nat → List PV → R PV) : S_changes fun us => outR (b_changes_of F (startE 5 us)) := by
  intro ps hl
  obtain ⟨r', e, s3, s4, rfl⟩ := forL_fold (t := tT [tN 3, tN 4]) (s := b_changes_of_0 F) (enc := encP) (f := fun (st : List Int × Int) p => (st.1 ++ [st.2], st.2 + p.2)) (xs := ps) (g0 := ([], 0)) (r0 := [.fz (encPs ps), .own [], .fz (.int 0), .no, .no])
    (fun st r => ∃ s3 s4, r = [.fz (encPs ps), .own (st.1.map .int), .fz (.int st.2), s3, s4]) ⟨_, _, rfl⟩ (fun i p st r hp hg ⟨s3, s4, er⟩ => by
      subst er
      have hlen : st.1.length ≤ 1000 := by
        have gen : ∀ (xs : List Ph) (st : List Int × Int), (xs.foldl (fun (st : List Int × Int) p => (st.1 ++ [st.2], st.2 + p.2)) st).1.length = st.1.length + xs.length := by
          intro xs
          induction xs with
          | nil => intro st; rfl
          | cons x xs ih => intro st; rw [List.foldl_cons, ih]; simp; omega
        rw [hg, gen, List.length_take]
        simp
        omega
      have hsz : st.1.length < 16777216 := by omega
      exact ⟨_, [.fz (encPs ps), .own ((st.1 ++ [st.2]).map .int), .fz (.int (st.2 + p.2)), .fz (.str p.1), .fz (.int p.2)], rfl, .inl (by simp -implicitDefEqProofs [b_changes_of_0, szl, hsz]), _, _, rfl⟩)
  rw [begs_fold] at e
  have e2 : itemsP (encPs ps) = .ok (ps.map encP) := rfl
  simp -implicitDefEqProofs [b_changes_of, e2, e, szl]
  rfl
/-! reversed -/
/-! ### turns -/
theorem ends_cy {ps : List Ph} (g : GL ps) (h1 : 1 < ps.length) : cy (ticks ps) (-1) ≠ cy (ticks ps) 0 := by
  have hp := g.pos
  have hne := g.ne
  have hG := good_iff.mpr g
  have hw := wh_pos hp hne
  have l0 : Lies ps 0 0 0 := ⟨by omega, by omega, by have := hp _ (ph_mem (show 0 < ps.length by omega)); omega, 0, by rw [List.take_zero]; simp; rfl⟩
  have hlast := hp _ (ph_mem (show ps.length - 1 < ps.length by omega))
  have l1 : Lies ps (-1) (ps.length - 1) ((ph ps (ps.length - 1)).2 - 1) := ⟨by omega, by omega, by omega, -1, by
    have : wh ps = wh (ps.take (ps.length - 1)) + (ph ps (ps.length - 1)).2 := by
      rw [← wh_succ (by omega), show ps.length - 1 + 1 = ps.length by omega, List.take_length]
    omega⟩
  rw [l0.here hp, l1.here hp]
  exact Ne.symm (hG.ends h1)
theorem two_cols {ps : List Ph} (g : GL ps) (h1 : 1 < ps.length) : ∃ x y : Int, cy (ticks ps) x ≠ cy (ticks ps) y := ⟨_, _, ends_cy g h1⟩
theorem shift_0 {A B : List Str} (hA : A ≠ []) (hB : B ≠ []) (h : Shift A B) : ∃ t : Int, (∀ x : Int, cy A x = cy B (x + t)) ∧ sameS A B 0 t = none := by
  obtain ⟨s, o, h⟩ := h
  have e := same_shift hA hB h
  refine ⟨o - s, fun x => ?_, ?_⟩
  · rw [e x]
    congr 1
    omega
  · rw [same_none hA hB]
    intro k
    rw [e]
    congr 1
    omega
end PH
namespace PH
open PySem PySem.Spec PyProof.Rows L2 VL PF WY
variable {F : Nat → List PV → R PV}
/-! ### windows of the program -/
def fwN (A B : List Str) (s o : Int) : Nat := (sameS A B s o).getD 0
/-- w is no worse than f -/
def leW (w f : Wn) : Prop := f.1 < w.1 ∨ (f.1 = w.1 ∧ (f.1 ≤ 0 ∨ w.2.1 < f.2.1 ∨ (w.2.1 = f.2.1 ∧ w.2.2 ≤ f.2.2)))
theorem leW.trans {a b c : Wn} (h : leW a b) (k : leW b c) : leW a c := by
  unfold leW at *
  omega
end PH
namespace PH
open PySem PySem.Spec PyProof.Rows L2 VL PF WY
variable {F : Nat → List PV → R PV}
/-! ### from outside -/
end PH
namespace PH
open PySem PySem.Spec PyProof.Rows L2 VL PF WY
variable {F : Nat → List PV → R PV}
/-! ### the laws' own search -/
theorem encR_cy {A : List Str} (hA : A ≠ []) (t : Int) : ixP (encR A) (.int (t % (A.length : Int))) = some (.str (cy A t)) := by
  have hl := List.length_pos_iff.mpr hA
  have h0 := Int.emod_nonneg t (show (A.length : Int) ≠ 0 by omega)
  have h1 := Int.emod_lt_of_pos t (show (0 : Int) < A.length by omega)
  obtain ⟨n, hn⟩ := Int.eq_ofNat_of_zero_le h0
  have := ixP_map (f := PV.str) (xs := A) "" (i := n) (by omega)
  unfold cy
  rw [hn]
  exact this
/-! the search through all pairs -/
def upd2 (A B : List Str) (b : Option (Nat × Nat)) (x : Nat × Nat) : Option (Nat × Nat) := match b with
  | none => some x
  | some y => if fwN A B y.1 y.2 < fwN A B x.1 x.2 then some x else some y
end PH
namespace PH
open PySem PySem.Spec PyProof.Rows L2 VL PF WY
variable {F : Nat → List PV → R PV}
end PH
namespace VL
open PySem PySem.Spec PyProof.Rows L2
end VL
namespace PH
open PySem PySem.Spec PyProof.Rows L2 VL PF WY
variable {F : Nat → List PV → R PV}
/-! ### papers of windows -/
end PH
namespace VL
def zipK : PV → PV → R (List PV)
  | .lst xs, .lst ys => .ok (zipP xs ys)
  | _, _ => .stuck
@[simp] theorem zipK_l (xs ys) : zipK (.lst xs) (.lst ys) = .ok (zipP xs ys) := rfl
@[simp] theorem iZipP_S (a b : Ex) (ρ : Ev) : iZipP a b ρ = (a ρ).bind fun x => (b ρ).bind fun y => zipK x y := by unfold iZipP; congr <;> (funext x; congr <;> (funext y; cases x <;> cases y <;> rfl))
end VL
namespace PH
open PySem PySem.Spec PyProof.Rows L2 VL PF WY
variable {F : Nat → List PV → R PV}
/-! ### lights side by side -/
abbrev Lt := List Ph × Int
structure GLt (l : Lt) : Prop where
  g : GL l.1
  l60 : l.1.length ≤ 60
  w : wh l.1 ≤ 1000
/-- the colour of a light at a time -/
def colL (l : Lt) (t : Int) : Str := cy (ticks l.1) (t - l.2)
/-! ### periods -/
theorem adj01 {ps : List Ph} (h : Adj ps) (h1 : 1 < ps.length) : (ph ps 0).1 ≠ (ph ps 1).1 := adj_at h 0 (by omega)
theorem short_len {W : List Ph} (g : GL W) (h1 : 1 < W.length) : (shortP W).length ≠ 1 := by
  intro z
  unfold shortP at z
  split at z
  · rename_i i e
    rw [List.find?_range_eq_some] at e
    obtain ⟨a, b, c⟩ := e
    have hi : i < W.length := by have := List.mem_range.mp b; omega
    rw [List.length_take] at z
    have i0 : i = 0 := by omega
    subst i0
    have ap := perB_up g.pos hi a
    unfold perB at a
    simp only [Bool.and_eq_true, decide_eq_true_eq] at a
    have a2 := a.2
    -- all phases are the first one
    have : W = List.replicate W.length (ph W 0) := by
      have e1 : W.take (0 + 1) = [ph W 0] := by
        cases W with
        | nil => simp at h1
        | cons p r => rfl
      rw [e1] at a2
      have a3 : (List.replicate (W.length / (0 + 1)) [ph W 0]).flatten = W := by first | exact a2 | exact a2.symm
      rw [Nat.zero_add, Nat.div_one] at a3
      conv => lhs; rw [← a3]
      generalize W.length = n
      induction n with
      | zero => rfl
      | succ n ih => rw [List.replicate_succ, List.flatten_cons, ih, List.replicate_succ]; rfl
    have h01 := adj01 g.adj h1
    apply h01
    have q : ∀ j, j < W.length → ph W j = ph W 0 := fun j hj => by
      have h2 : W[j]? = some (ph W 0) := by
        conv => lhs; rw [this]
        rw [List.getElem?_replicate, if_pos hj]
      unfold ph at h2 ⊢
      rw [List.getD_eq_getElem?_getD, h2]
      rfl
    rw [q 1 h1]
  · omega
end PH
namespace VL
theorem forL_inv {β : Type} {t : Tg} {s : Env → Out} {enc : β → PV} (R : Nat → Env → Prop) (Q : Out → Prop) {xs : List β} {r0 : Env} (h0 : R 0 r0)
    (turn : ∀ (i : Nat) (x : β) (r : Env), xs[i]? = some x → R i r → ∃ as, t (enc x) = some as ∧ ((∃ v, s (setS as r) = .ret v ∧ Q (.ret v)) ∨ (∃ r', (s (setS as r) = .next r' ∨ s (setS as r) = .cont r') ∧ R (i + 1) r'))) :
    (∃ v, forL t s (xs.map enc) r0 = .ret v ∧ Q (.ret v)) ∨ ∃ r', forL t s (xs.map enc) r0 = .next r' ∧ R xs.length r' := by
  refine forL_by (Q := fun o => (∃ v, o = .ret v ∧ Q (.ret v)) ∨ ∃ r', o = .next r' ∧ R xs.length r') (fun i r => R i r) h0 (fun i v r hv hi => ?_) (fun r hr => ?_)
  · obtain ⟨x, hx, rfl⟩ := PH.map_get hv
    obtain ⟨as, e1, h⟩ := turn i x r hx hi
    refine ⟨as, e1, ?_⟩
    rcases h with ⟨v, e, q⟩ | ⟨r', e, h⟩
    · exact .inr (.inr (.inl ⟨v, e, .inl ⟨v, rfl, q⟩⟩))
    · exact .inl ⟨r', e, h⟩
  · rw [List.length_map] at hr
    exact .inr ⟨r, rfl, hr⟩
end VL
namespace PH
open PySem PySem.Spec PyProof.Rows L2 VL PF WY
variable {F : Nat → List PV → R PV}
theorem GLt.pos {l : Lt} (g : GLt l) : Pos l.1 := g.g.pos
theorem GLt.tl {l : Lt} (g : GLt l) : ((ticks l.1).length : Int) = wh l.1 := ticks_len g.pos
/-! ### lcm -/
end PH
namespace PH
open PySem PySem.Spec PyProof.Rows L2 VL PF WY
variable {F : Nat → List PV → R PV}
/-! ### the least shift -/
def shB (A B : List Str) (x : Int) : Bool := (sameS A B 0 x).isNone
def shiftO (A B : List Str) : Option Nat := (List.range B.length).find? fun t => shB A B (t : Int)
theorem shB_iff {A B : List Str} {x : Int} (hA : A ≠ []) (hB : B ≠ []) : shB A B x = true ↔ ∀ k : Nat, cy A (k : Int) = cy B (x + (k : Int)) := by
  unfold shB
  rw [Option.isNone_iff_eq_none, same_none hA hB]
  simp only [Int.zero_add]
/-- the first of a sorted list in which all good ones stand -/
theorem find_sub {p : Int → Bool} : ∀ {n : Nat} {L : List Int}, L.Pairwise (· < ·) → (∀ x ∈ L, 0 ≤ x ∧ x < (n : Int)) → (∀ t : Nat, t < n → p (t : Int) = true → (t : Int) ∈ L) → L.find? p = ((List.range n).find? fun (t : Nat) => p (t : Int)).map fun (t : Nat) => (t : Int) := by
  intro n L hs hb hm
  cases e : (List.range n).find? fun (t : Nat) => p (t : Int) with
  | none =>
    rw [Option.map_none, List.find?_eq_none]
    intro x hx
    have hx1 := hb x hx
    have := List.find?_eq_none.mp e x.toNat (by rw [List.mem_range]; omega)
    rw [Int.toNat_of_nonneg hx1.1] at this
    exact this
  | some t =>
    rw [Option.map_some]
    rw [List.find?_range_eq_some] at e
    obtain ⟨e1, e2, e3⟩ := e
    have ht := hm t (List.mem_range.mp e2) e1
    obtain ⟨a, b, rfl⟩ := List.append_of_mem ht
    rw [List.find?_append, List.find?_eq_none.mpr, Option.none_or, List.find?_cons_of_pos e1]
    intro y hy
    have h1 := (List.pairwise_append.mp hs).2.2 y hy (t : Int) (by simp)
    have h2 := hb y (by simp [hy])
    have h3 := e3 y.toNat (by omega)
    rw [Int.toNat_of_nonneg h2.1] at h3
    simpa using h3
theorem begs_lt {ps : List Ph} (hp : Pos ps) : (begs ps).Pairwise (· < ·) := by
  unfold begs
  rw [List.pairwise_map]
  have : ∀ {l : List Nat}, (∀ x ∈ l, x < ps.length) → l.Pairwise (· < ·) → l.Pairwise fun i j => wh (ps.take i) < wh (ps.take j) := by
    intro l hl h
    induction h with
    | nil => exact .nil
    | @cons a l ha hl2 ih =>
      refine .cons (fun j hj => ?_) (ih fun x hx => hl x (List.mem_cons_of_mem _ hx))
      have h1 := ha j hj
      have h2 := hl j (List.mem_cons_of_mem _ hj)
      have e : ps.take (a + 1) = (ps.take j).take (a + 1) := by rw [List.take_take, Nat.min_eq_left (by omega)]
      have h3 : wh (ps.take j) = wh ((ps.take j).take (a + 1)) + wh ((ps.take j).drop (a + 1)) := by rw [← wh_app, List.take_append_drop]
      rw [← e, wh_succ (by omega)] at h3
      have h4 := wh_nn ((hp.take j).drop (a + 1))
      have h5 := hp _ (ph_mem (show a < ps.length by omega))
      omega
  exact this (fun x hx => List.mem_range.mp hx) List.pairwise_lt_range
/-- the loop over starts -/
theorem find_starts {A B : List Str} {s : VL.Env → Out} {r0 : VL.Env} (R : VL.Env → Prop) (h0 : R r0) (tgt : Nat) (L : List Int)
    (turn : ∀ (x : Int) (r : VL.Env), x ∈ L → R r → (shB A B x = true ∧ s (r.set tgt (.fz (.int x))) = .ret (.int x)) ∨ (shB A B x = false ∧ ∃ r', s (r.set tgt (.fz (.int x))) = .next r' ∧ R r')) :
    (∃ x, L.find? (shB A B) = some x ∧ forL (tN tgt) s (L.map .int) r0 = .ret (.int x)) ∨ (L.find? (shB A B) = none ∧ ∃ r', forL (tN tgt) s (L.map .int) r0 = .next r' ∧ R r') := by
  rcases forL_find (t := tN tgt) (s := s) (enc := PV.int) R (shB A B) (fun x o => o = .ret (.int x)) (xs := L) h0 (fun i x r hx hr => by
    have e2 : setS [(tgt, PV.int x)] r = r.set tgt (.fz (.int x)) := by simp
    refine ⟨_, rfl, ?_⟩
    rw [e2]
    rcases turn x r (List.mem_of_getElem? hx) hr with ⟨a, b⟩ | ⟨a, r', b, c⟩
    · exact .inl ⟨a, by rw [b]; trivial, b⟩
    · exact .inr ⟨a, r', .inl b, c⟩) with ⟨x, hx, hq⟩ | ⟨hn, r', h1, h2⟩
  · exact .inl ⟨x, hx, hq⟩
  · exact .inr ⟨hn, r', h1, h2⟩
/-- a character, maybe with ends of one colour -/
inductive Loose : List Ph → Prop
  | gl {ps : List Ph} (g : GL ps) : Loose ps
  | ends {p q : Ph} {mid : List Ph} (hm : mid ≠ []) (e : p.1 = q.1) (adj : Adj (p :: (mid ++ [q]))) (ok : ∀ x ∈ p :: (mid ++ [q]), isPh x = true) (s : p.2 + q.2 ≤ 6000) : Loose (p :: (mid ++ [q]))
theorem Loose.ne {ps : List Ph} (h : Loose ps) : ps ≠ [] := by
  cases h with
  | gl g => exact g.ne
  | ends => simp
theorem Loose.ok {ps : List Ph} (h : Loose ps) : ∀ x ∈ ps, isPh x = true := by
  cases h with
  | gl g => exact g.ok
  | ends _ _ _ ok => exact ok
theorem Loose.adj {ps : List Ph} (h : Loose ps) : Adj ps := by
  cases h with
  | gl g => exact g.adj
  | ends _ _ a _ => exact a
theorem Loose.pos {ps : List Ph} (h : Loose ps) : Pos ps := fun p hp => (isPh_pos (h.ok p hp)).1
theorem Loose.chain {ps : List Ph} (h : Loose ps) : Chain ps := chain_of h.ne h.ok h.adj
/-- .. begun at its first change of colour -/
def joinE : List Ph → List Ph
  | [] => []
  | p :: r => if r ≠ [] ∧ lastC r = some p.1 then r.dropLast ++ [(p.1, (ph r (r.length - 1)).2 + p.2)] else p :: r
theorem joinE_S (p : Ph) (r : List Ph) : joinE (p :: r) = if r ≠ [] ∧ lastC r = some p.1 then r.dropLast ++ [(p.1, (ph r (r.length - 1)).2 + p.2)] else p :: r := rfl
theorem joinE_gl {ps : List Ph} (g : GL ps) : joinE ps = ps := by
  cases ps with
  | nil => rfl
  | cons p r =>
    rw [joinE_S, if_neg]
    intro ⟨h1, h2⟩
    have := g.ends (by have := List.length_pos_iff.mpr h1; simp; omega)
    apply this
    unfold lastC hd at *
    rw [List.getLast?_cons]
    rw [Option.map_eq_some_iff] at h2
    obtain ⟨l, e1, e2⟩ := h2
    rw [e1]
    simp [e2]
theorem joinE_ends {p q : Ph} {mid : List Ph} (e : p.1 = q.1) : joinE (p :: (mid ++ [q])) = mid ++ [(p.1, q.2 + p.2)] := by
  rw [joinE_S]
  have hl : lastC (mid ++ [q]) = some p.1 := by unfold lastC; rw [List.getLast?_concat, e]; rfl
  rw [if_pos ⟨by simp, hl⟩, List.dropLast_concat]
  congr 3
  unfold ph
  simp
theorem joinE_good {ps : List Ph} (h : Loose ps) : GL (joinE ps) := by
  cases h with
  | gl g => rw [joinE_gl g]; exact g
  | @ends p q mid hm e adj ok s =>
    rw [joinE_ends e]
    have hp := isPh_pos (ok p (by simp))
    have hq := isPh_pos (ok q (by simp))
    have a2 := (adj_cons.mp adj).2
    have a1 := (adj_cons.mp adj).1
    refine ⟨by simp, fun x hx => ?_, (adj_colR (r := mid) (p := q) (q := (p.1, q.2 + p.2)) e.symm).mp a2, fun _ => ?_⟩
    · rcases List.mem_append.mp hx with hx | hx
      · exact ok x (by simp [hx])
      · rw [List.mem_singleton] at hx
        subst hx
        unfold isPh
        simp only [Bool.and_eq_true, decide_eq_true_eq]
        exact ⟨hp.2.2, by omega, by omega⟩
    · rw [hd_app hm]
      rw [hd_app hm] at a1
      unfold lastC
      rw [List.getLast?_concat]
      exact fun z => a1 z.symm
theorem rot_cy (V U : List Str) (t : Int) : cy (V ++ U) (t + (V.length : Int)) = cy (U ++ V) t := by
  rcases Nat.eq_zero_or_pos (V ++ U).length with z | hn
  · have a : V = [] := by cases V with | nil => rfl | cons => simp at z
    have b : U = [] := by cases U with | nil => rfl | cons => simp at z
    subst a b
    rfl
  · have l1 : ((V ++ U).length : Int) = V.length + U.length := by rw [List.length_append]; omega
    have l2 : ((U ++ V).length : Int) = V.length + U.length := by rw [List.length_append]; omega
    unfold cy
    rw [l1, l2, List.getD_eq_getElem?_getD, List.getD_eq_getElem?_getD]
    generalize hN : (V.length : Int) + (U.length : Int) = N
    have hN0 : 0 < N := by omega
    have r0 := Int.emod_nonneg t (by omega : N ≠ 0)
    have r1 := Int.emod_lt_of_pos t hN0
    have em : (t + (V.length : Int)) % N = (t % N + V.length) % N := by rw [Int.emod_add_emod]
    rw [em]
    generalize t % N = r at *
    congr 1
    by_cases c : r < U.length
    · rw [Int.emod_eq_of_lt (by omega) (by omega), List.getElem?_append_right (by omega), List.getElem?_append_left (by omega)]
      congr 1
      omega
    · have : (r + V.length) % N = r - U.length := by
        rw [show r + (V.length : Int) = (r - U.length) + 1 * N by omega, Int.add_mul_emod_self_right]
        exact Int.emod_eq_of_lt (by omega) (by omega)
      rw [this, List.getElem?_append_left (by omega), List.getElem?_append_right (by omega)]
      congr 1
      omega
/-- ticks, joined -/
theorem joinE_cy {ps : List Ph} (h : Loose ps) : ∃ s : Int, ∀ t : Int, cy (ticks (joinE ps)) t = cy (ticks ps) (t + s) := by
  cases h with
  | gl g => rw [joinE_gl g]; exact ⟨0, fun t => by rw [Int.add_zero]⟩
  | @ends p q mid hm e adj ok s =>
    rw [joinE_ends e]
    have hp := isPh_pos (ok p (by simp))
    have hq := isPh_pos (ok q (by simp))
    refine ⟨p.2, fun t => ?_⟩
    have e1 : ticks (p :: (mid ++ [q])) = List.replicate p.2.toNat p.1 ++ (ticks mid ++ List.replicate q.2.toNat p.1) := by
      rw [ticks_cons, ticks_app, ticks_cons, ticks_nil, List.append_nil, e]
    have e2 : ticks (mid ++ [(p.1, q.2 + p.2)]) = (ticks mid ++ List.replicate q.2.toNat p.1) ++ List.replicate p.2.toNat p.1 := by
      rw [ticks_app, ticks_cons, ticks_nil, List.append_nil, List.append_assoc, List.replicate_append_replicate, Int.toNat_add (by omega) (by omega)]
    rw [e1, e2]
    generalize hU : ticks mid ++ List.replicate q.2.toNat p.1 = U
    generalize hV : List.replicate p.2.toNat p.1 = V
    have hVl : (V.length : Int) = p.2 := by rw [← hV, List.length_replicate]; omega
    rw [← hVl]
    exact (rot_cy V U t).symm
end PH
namespace PH
open PySem PySem.Spec PyProof.Rows L2 VL PF WY
variable {F : Nat → List PV → R PV}
def S_joinM (g : List PV → R PV) : Prop := ∀ ps : List Ph, Loose ps → ps.length ≤ 1000 → g [encPs ps] = .ok (encPs (joinE ps))
theorem sp_joinM (F : Nat → List PV → R PV) : S_joinM fun us => outR (b_joined F (startE 1 us)) := by
  intro ps h hl
  cases h with
  | gl g => rw [joinE_gl g]; exact sp_joinedA F ps g.ne fun h => (good_iff.mpr g).ends h
  | @ends p q mid hm e adj ok s =>
    rw [joinE_ends e]
    exact sp_joinedB F p q mid hm e (by simp at hl; omega)
def startsOf (ps : List Ph) : List Int := if (ph ps 0).1 = (ph ps (ps.length - 1)).1 then (begs (joinE ps)).map (· + (ph ps 0).2) else begs (joinE ps)
theorem begs_last (mid : List Ph) (q q' : Ph) : begs (mid ++ [q]) = begs (mid ++ [q']) := by
  unfold begs
  rw [List.length_append, List.length_append]
  refine List.map_congr_left fun i hi => ?_
  have hi : i < mid.length + 1 := by simpa using hi
  rw [List.take_append_of_le_length (by omega), List.take_append_of_le_length (by omega)]
theorem begs_cons (p : Ph) (r : List Ph) : begs (p :: r) = 0 :: (begs r).map (· + p.2) := by
  unfold begs
  rw [List.length_cons, List.range_succ_eq_map, List.map_cons, List.map_map, List.map_map]
  congr 1
  refine List.map_congr_left fun i hi => ?_
  show wh ((p :: r).take (i + 1)) = wh (r.take i) + p.2
  rw [List.take_succ_cons]
  show ((p :: r.take i).map (·.2)).sum = _
  rw [List.map_cons, List.sum_cons]
  show p.2 + wh (r.take i) = _
  omega
/-- the beginnings of changes of colour -/
structure Sts (ps : List Ph) : Prop where
  lt : (startsOf ps).Pairwise (· < ·)
  bd : ∀ x ∈ startsOf ps, 0 ≤ x ∧ x < wh ps
  has : ∀ t : Int, 0 ≤ t → t < wh ps → cy (ticks ps) (t - 1) ≠ cy (ticks ps) t → t ∈ startsOf ps
theorem cy_ends0 {p q : Ph} {mid : List Ph} (hp : Pos (p :: (mid ++ [q]))) (e : p.1 = q.1) : cy (ticks (p :: (mid ++ [q]))) (-1) = cy (ticks (p :: (mid ++ [q]))) 0 := by
  have hw := ticks_len hp
  have hpp := hp p (by simp)
  have hqq := hp q (by simp)
  have e1 : ticks (p :: (mid ++ [q])) = List.replicate p.2.toNat p.1 ++ ticks mid ++ List.replicate q.2.toNat p.1 := by
    rw [ticks_cons, ticks_app, ticks_cons, ticks_nil, List.append_nil, e, List.append_assoc]
  rw [e1]
  have hl : ((List.replicate p.2.toNat p.1 ++ ticks mid ++ List.replicate q.2.toNat p.1).length : Int) = p.2 + (ticks mid).length + q.2 := by
    simp only [List.length_append, List.length_replicate]
    omega
  unfold cy
  rw [hl]
  have a1 : (-1 : Int) % (p.2 + (ticks mid).length + q.2) = p.2 + (ticks mid).length + q.2 - 1 := by
    rw [show (-1 : Int) = (p.2 + (ticks mid).length + q.2 - 1) + (-1) * (p.2 + (ticks mid).length + q.2) by omega, Int.add_mul_emod_self_right]
    exact Int.emod_eq_of_lt (by omega) (by omega)
  rw [a1, Int.zero_emod]
  have b1 : (List.replicate p.2.toNat p.1 ++ ticks mid ++ List.replicate q.2.toNat p.1).getD (p.2 + (ticks mid).length + q.2 - 1).toNat "" = p.1 := by
    rw [List.getD_eq_getElem?_getD, List.getElem?_append_right (by simp; omega), List.getElem?_replicate, if_pos (by simp; omega)]
    rfl
  have b2 : (List.replicate p.2.toNat p.1 ++ ticks mid ++ List.replicate q.2.toNat p.1).getD (0 : Int).toNat "" = p.1 := by
    rw [List.append_assoc, List.getD_eq_getElem?_getD, List.getElem?_append_left (by simp; omega), List.getElem?_replicate, if_pos (by simp; omega)]
    rfl
  rw [b1, b2]
theorem ph_ends {p q : Ph} {mid : List Ph} : ph (p :: (mid ++ [q])) 0 = p ∧ ph (p :: (mid ++ [q])) ((p :: (mid ++ [q])).length - 1) = q := by
  refine ⟨rfl, ?_⟩
  unfold ph
  simp
theorem starts_ok {ps : List Ph} (h : Loose ps) (h1 : 1 < ps.length) : Sts ps := by
  cases h with
  | gl g =>
    have hp := g.pos
    have e : startsOf ps = begs ps := by
      unfold startsOf
      rw [if_neg ((good_iff.mpr g).ends h1), joinE_gl g]
    refine ⟨by rw [e]; exact begs_lt hp, fun x hx => begs_bd hp (by rwa [e] at hx), fun t t0 t1 hc => ?_⟩
    have := change_beg hp g.ne hc
    rw [Int.emod_eq_of_lt t0 t1] at this
    rwa [e]
  | @ends p q mid hm e adj ok s =>
    have H : Loose (p :: (mid ++ [q])) := .ends hm e adj ok s
    have hp := H.pos
    have gj := joinE_good H
    rw [joinE_ends e] at gj
    have es : startsOf (p :: (mid ++ [q])) = (begs (mid ++ [(p.1, q.2 + p.2)])).map (· + p.2) := by
      unfold startsOf
      rw [ph_ends.1, ph_ends.2, if_pos e, joinE_ends e]
    have hb : begs (p :: (mid ++ [q])) = 0 :: startsOf (p :: (mid ++ [q])) := by
      rw [es, begs_cons, begs_last mid q (p.1, q.2 + p.2)]
    have hs := begs_lt hp
    rw [hb, List.pairwise_cons] at hs
    refine ⟨hs.2, fun x hx => begs_bd hp (by rw [hb]; exact List.mem_cons_of_mem _ hx), fun t t0 t1 hc => ?_⟩
    have := change_beg hp (by simp) hc
    rw [Int.emod_eq_of_lt t0 t1, hb, List.mem_cons] at this
    rcases this with z | z
    · exfalso
      subst z
      exact hc (by simpa using cy_ends0 hp e)
    · exact z
theorem shift_has {A B : List Str} (hA : A ≠ []) (hB : B ≠ []) {t : Int} (hc : cy A (-1) ≠ cy A 0) (h : shB A B t = true) : cy B (t - 1) ≠ cy B t := by
  have e := same_shift hA hB (s := 0) (o := t) (by unfold shB at h; exact Option.isNone_iff_eq_none.mp h)
  have a := e (-1)
  have b := e 0
  rw [show (-1 : Int) - 0 + t = t - 1 by omega] at a
  rw [show (0 : Int) - 0 + t = t by omega] at b
  rw [← a, ← b]
  exact hc
def S_turnM (g : List PV → R PV) : Prop := ∀ ps qs : List Ph, GL ps → Loose qs → (ps.length = 1 → GL qs) → ps.length ≤ 1000 → qs.length ≤ 1000 → wh ps ≤ 1000000 → wh qs ≤ 1000000 → g [encPs ps, encPs qs] = .ok (oint (shiftO (ticks ps) (ticks qs)))
theorem starts_find {ps qs : List Ph} (g1 : GL ps) (c1 : 1 < ps.length) (S : Sts qs) (hq : Pos qs) (nq : qs ≠ []) : (startsOf qs).find? (shB (ticks ps) (ticks qs)) = (shiftO (ticks ps) (ticks qs)).map fun (t : Nat) => (t : Int) := by
  have lq : ((ticks qs).length : Int) = wh qs := ticks_len hq
  refine find_sub S.lt (fun x hx => by rw [lq]; exact S.bd x hx) fun t ht hs => ?_
  exact S.has t (by omega) (by omega) (shift_has (ticks_ne g1.pos g1.ne) (ticks_ne hq nq) (ends_cy g1 c1) hs)
theorem sp_turnM (h384 : S_joinM (F 384)) (h650 : S_whole (F 650)) (h217 : S_changes (F 217)) (h539 : S_same (F 539)) : S_turnM fun us => outR (b_turn_between F (startE 10 us)) := by
  intro ps qs g1 g2 g3 lp lq wp wq
  have hp := g1.pos
  have hq := g2.pos
  have hA := ticks_ne hp g1.ne
  have hB := ticks_ne hq g2.ne
  have G1 := good_iff.mpr g1
  have gJ := joinE_good g2
  have e1 := h384 ps (.gl g1) lp
  rw [joinE_gl g1] at e1
  have e2 := h384 qs g2 lq
  have l1 := encPs_len ps
  have l2 := encPs_len (joinE qs)
  have i1 := encPs_first g1.ne
  have i2 := encPs_first g2.ne
  have i3 := encPs_first gJ.ne
  have j1 := encPs_last g1.ne
  have j2 := encPs_last g2.ne
  have np := List.length_pos_iff.mpr g1.ne
  have nq := List.length_pos_iff.mpr g2.ne
  have nJ := List.length_pos_iff.mpr gJ.ne
  have lqA : ((ticks qs).length : Int) = wh qs := ticks_len hq
  have none_of : (¬ ∃ t : Int, shB (ticks ps) (ticks qs) t = true) → shiftO (ticks ps) (ticks qs) = none := fun h => by
    unfold shiftO
    rw [List.find?_eq_none]
    intro t _ hs
    exact h ⟨t, hs⟩
  by_cases c1 : ps.length = 1
  · have gq := g3 c1
    rw [joinE_gl gq] at e2 l2 i3
    by_cases c2 : qs.length = 1
    · have k0 : Lies ps 0 0 0 := ⟨by omega, by omega, by have := hp _ (ph_mem np); omega, 0, by rw [List.take_zero]; simp; rfl⟩
      have m0 : Lies qs 0 0 0 := ⟨by omega, by omega, by have := hq _ (ph_mem nq); omega, 0, by rw [List.take_zero]; simp; rfl⟩
      by_cases c3 : (ph ps 0).1 = (ph qs 0).1
      · have : shiftO (ticks ps) (ticks qs) = some 0 := by
          unfold shiftO
          rw [List.find?_range_eq_some]
          refine ⟨?_, List.mem_range.mpr (List.length_pos_iff.mpr hB), fun j hj => absurd hj (Nat.not_lt_zero _)⟩
          rw [shB_iff hA hB]
          intro k
          rw [single_const hp c1 _ 0, single_const hq c2 _ 0, k0.here hp, m0.here hq, c3]
        rw [this]
        simp -implicitDefEqProofs [b_turn_between, e1, e2, l1, l2, c1, c2, i1, i2, encP_ix0, c3, oint]
      · have : shiftO (ticks ps) (ticks qs) = none := none_of fun ⟨t, hs⟩ => by
          rw [shB_iff hA hB] at hs
          have := hs 0
          rw [single_const hp c1 _ 0, single_const hq c2 _ 0, k0.here hp, m0.here hq] at this
          exact c3 this
        rw [this]
        simp -implicitDefEqProofs [b_turn_between, e1, e2, l1, l2, c1, c2, i1, i2, encP_ix0, c3, oint]
    · have c2' : ¬ (qs.length : Int) = 1 := by omega
      have c2'' : ¬ (1 : Int) = (qs.length : Int) := by omega
      have : shiftO (ticks ps) (ticks qs) = none := none_of fun ⟨t, hs⟩ => by
        obtain ⟨u, h, _⟩ := shift_0 hA hB ⟨0, t, Option.isNone_iff_eq_none.mp hs⟩
        obtain ⟨x, y, hxy⟩ := two_cols gq (by omega)
        have a := h (x - u)
        have b := h (y - u)
        rw [show x - u + u = x by omega] at a
        rw [show y - u + u = y by omega] at b
        rw [single_const hp c1 _ 0] at a b
        exact hxy (by rw [← a, ← b])
      rw [this]
      simp -implicitDefEqProofs [b_turn_between, e1, e2, l1, l2, c1, c2, c2', c2'', i1, i2, encP_ix0, oint]
  · have c1' : ¬ (ps.length : Int) = 1 := by omega
    by_cases c2 : (joinE qs).length = 1
    · have : shiftO (ticks ps) (ticks qs) = none := none_of fun ⟨t, hs⟩ => by
        obtain ⟨u, h, _⟩ := shift_0 hA hB ⟨0, t, Option.isNone_iff_eq_none.mp hs⟩
        obtain ⟨x, y, hxy⟩ := two_cols g1 (by omega)
        obtain ⟨s, hs⟩ := joinE_cy g2
        have f : ∀ z, cy (ticks qs) z = cy (ticks (joinE qs)) (z - s) := fun z => by rw [hs]; congr 1; omega
        rw [h x, h y, f, f, single_const gJ.pos c2 _ 0, single_const gJ.pos c2 (y + u - s) 0] at hxy
        exact hxy rfl
      rw [this]
      simp -implicitDefEqProofs [b_turn_between, e1, e2, l1, l2, c1, c1', c2, i1, i2, encP_ix0, oint]
    · have c2' : ¬ ((joinE qs).length : Int) = 1 := by omega
      have d1 := G1.ends (by omega)
      have e3 := h650 qs (by omega)
      have lj : (joinE qs).length ≤ 1000 := by
        cases g2 with
        | gl g => rw [joinE_gl g]; exact lq
        | ends hm e _ _ _ => rw [joinE_ends e]; simp at lq ⊢; omega
      have e4 := h217 (joinE qs) lj
      have c3 : 1 < qs.length := by
        cases g2 with
        | gl g => rw [joinE_gl g] at c2; omega
        | ends => simp
      have S := starts_ok g2 c3
      have fnd := starts_find g1 (by omega) S hq g2.ne
      -- the shift of the list
      have hsh : ∃ sh : Int, True ∧
          (if (ph qs 0).1 = (ph qs (qs.length - 1)).1 then (ph qs 0).2 else 0) = sh ∧ startsOf qs = (begs (joinE qs)).map (· + sh) := by
        refine ⟨_, trivial, rfl, ?_⟩
        unfold startsOf
        split
        · rfl
        · simp
      obtain ⟨sh, -, hsh, hst⟩ := hsh
      have bd := S.bd
      rw [hst] at bd
      have comp : ∀ a0 a1 a2 a3 a7 a8 : Option PV, lcL (tN 9) cYes (b_turn_between_0 F) [a0, a1, a2, a3, some (.int 0), some (.int sh), some (.int (wh qs)), a7, a8, none] ((begs (joinE qs)).map .int) = .ok (((begs (joinE qs)).map (· + sh)).map .int) := by
        intro a0 a1 a2 a3 a7 a8
        rw [List.map_map]
        refine lcL_map PV.int (fun x => PV.int (x + sh)) (begs (joinE qs)) fun x hx => ⟨_, rfl, ?_⟩
        have hb := bd (x + sh) (List.mem_map.mpr ⟨x, hx, rfl⟩)
        have hw := wh_pos hq g2.ne
        have hm : (x + sh) % wh qs = x + sh := Int.emod_eq_of_lt hb.1 hb.2
        simp -implicitDefEqProofs [b_turn_between_0, hw, hm]
      rw [← hst] at comp
      have srt : sortP [.lst ((startsOf qs).map .int)] = some (.lst ((startsOf qs).map .int)) := by
        show (intsP ((startsOf qs).map .int)).map _ = _
        rw [intsP_map]
        simp only [Option.map_some]
        congr 3
        unfold sortI
        exact List.mergeSort_of_pairwise (S.lt.imp fun h => by simpa using Int.le_of_lt h)
      have it : itemsP (encI (begs (joinE qs))) = .ok ((begs (joinE qs)).map .int) := rfl
      have hbl : ((startsOf qs).map PV.int).length ≤ 16777216 := by
        have : (startsOf qs).length = (begs (joinE qs)).length := by rw [hst, List.length_map]
        rw [List.length_map, this]
        unfold begs
        rw [List.length_map, List.length_range]
        omega
      have fb := find_starts (A := ticks ps) (B := ticks qs) (s := b_turn_between_1 F) (tgt := 8) (L := startsOf qs) (r0 := [.fz (encPs ps), .fz (encPs qs), .fz (encPs ps), .fz (encPs (joinE qs)), .fz (.int 0), .fz (.int sh), .fz (.int (wh qs)), .fz (.lst ((startsOf qs).map .int)), .no, .no]) (fun r => ∃ x8, r = [.fz (encPs ps), .fz (encPs qs), .fz (encPs ps), .fz (encPs (joinE qs)), .fz (.int 0), .fz (.int sh), .fz (.int (wh qs)), .fz (.lst ((startsOf qs).map .int)), x8, .no]) ⟨.no, rfl⟩ (fun x r hx ⟨x8, er⟩ => by
        subst er
        have hF := h539 ps qs 0 x hp g1.ne hq g2.ne lp lq wp wq
        unfold shB
        cases hs : sameS (ticks ps) (ticks qs) 0 x with
        | none =>
          rw [hs] at hF
          exact .inl ⟨rfl, by simp -implicitDefEqProofs [b_turn_between_1, hF, oint]⟩
        | some n =>
          rw [hs] at hF
          exact .inr ⟨rfl, _, by simp -implicitDefEqProofs [b_turn_between_1, hF, oint]; rfl, _, rfl⟩)
      rw [fnd] at fb
      generalize hL : (startsOf qs).map PV.int = LL at *
      have fin : outR (b_turn_between F (startE 10 [encPs ps, encPs qs])) = .ok (oint (shiftO (ticks ps) (ticks qs))) := by
        rcases fb with ⟨x, hx, hf⟩ | ⟨hn, r', hf, _⟩
        · rw [Option.map_eq_some_iff] at hx
          obtain ⟨t, ht, rfl⟩ := hx
          rw [ht]
          by_cases ce : (ph qs 0).1 = (ph qs (qs.length - 1)).1
          · rw [if_pos ce] at hsh
            simp -implicitDefEqProofs [b_turn_between, e1, e2, l1, l2, c1, c1', c2, c2', i1, i2, j1, j2, encP_ix0, encP_ix1, d1, ce, hsh, e3, e4, it, comp, srt, szl, hbl, hf, oint]
          · rw [if_neg ce] at hsh
            subst hsh
            simp -implicitDefEqProofs [b_turn_between, e1, e2, l1, l2, c1, c1', c2, c2', i1, i2, j1, j2, encP_ix0, encP_ix1, d1, ce, e3, e4, it, comp, srt, szl, hbl, hf, oint]
        · rw [Option.map_eq_none_iff] at hn
          rw [hn]
          by_cases ce : (ph qs 0).1 = (ph qs (qs.length - 1)).1
          · rw [if_pos ce] at hsh
            simp -implicitDefEqProofs [b_turn_between, e1, e2, l1, l2, c1, c1', c2, c2', i1, i2, j1, j2, encP_ix0, encP_ix1, d1, ce, hsh, e3, e4, it, comp, srt, szl, hbl, hf, oint]
          · rw [if_neg ce] at hsh
            subst hsh
            simp -implicitDefEqProofs [b_turn_between, e1, e2, l1, l2, c1, c1', c2, c2', i1, i2, j1, j2, encP_ix0, encP_ix1, d1, ce, e3, e4, it, comp, srt, szl, hbl, hf, oint]
      exact fin
end PH
namespace PH
open PySem PySem.Spec PyProof.Rows L2 VL PF WY
variable {F : Nat → List PV → R PV}
/-! ### rows begun elsewhere, their least periods -/
theorem cy_at {A : List Str} {j : Nat} (hj : j < A.length) : A[j]? = some (cy A (j : Int)) := by
  unfold cy
  rw [Int.emod_eq_of_lt (by omega) (by omega), Int.toNat_natCast, List.getD_eq_getElem?_getD, List.getElem?_eq_getElem hj]
  rfl
theorem rot_map {A : List Str} {k : Nat} (hk : k ≤ A.length) : A.drop k ++ A.take k = (List.range A.length).map fun (i : Nat) => cy A ((k : Int) + (i : Int)) := by
  apply List.ext_getElem?
  intro i
  rw [List.getElem?_map]
  by_cases hi : i < A.length
  · rw [List.getElem?_range hi]
    simp only [Option.map_some]
    by_cases c : i < A.length - k
    · rw [List.getElem?_append_left (by simpa using c), List.getElem?_drop, cy_at (by omega)]
      congr 2
      try omega
    · rw [List.getElem?_append_right (by simp; omega), List.length_drop, List.getElem?_take, if_pos (by omega), cy_at (by omega)]
      congr 1
      rw [← cy_add A _ 1]
      congr 1
      omega
  · rw [List.getElem?_eq_none (by simp; omega), List.getElem?_eq_none (by simpa using hi)]
    rfl
theorem per_k {f : Int → Str} {a : Int} (h : ∀ t, f (t + a) = f t) : ∀ (k : Nat) (t : Int), f (t + (k : Int) * a) = f t
  | 0, t => by simp
  | k + 1, t => by
    rw [show ((k + 1 : Nat) : Int) * a = (k : Int) * a + a by rw [show ((k + 1 : Nat) : Int) = (k : Int) + 1 from rfl, Int.add_mul, Int.one_mul], ← Int.add_assoc, h, per_k h k]
theorem per_gcd {f : Int → Str} (a b : Nat) (h1 : ∀ t, f (t + (a : Int)) = f t) (h2 : ∀ t, f (t + (b : Int)) = f t) : ∀ t, f (t + (Nat.gcd a b : Int)) = f t := by
  induction a, b using Nat.gcd.induction with
  | H0 n => simpa using h2
  | H1 m n hm ih =>
    rw [Nat.gcd_rec]
    refine ih (fun t => ?_) h1
    have e : (n : Int) = ((n % m : Nat) : Int) + ((n / m : Nat) : Int) * (m : Int) := by
      have := Nat.mod_add_div n m
      rw [Nat.mul_comm] at this
      have h := congrArg (fun z : Nat => (z : Int)) this
      simp only [Int.natCast_add, Int.natCast_mul] at h
      exact h.symm
    have := h2 t
    rw [e, ← Int.add_assoc, per_k h1] at this
    exact this
theorem rep_cy {u : List Str} {k : Nat} (hk : 1 ≤ k) (t : Int) : cy (List.replicate k u).flatten t = cy u t := by
  by_cases hu : u = []
  · subst hu
    have : (List.replicate k ([] : List Str)).flatten = [] := by simp
    rw [this]
  have hl : ((List.replicate k u).flatten.length : Int) = k * u.length := by rw [rep_len, Int.natCast_mul]
  have pu : (0 : Int) < u.length := by have := List.length_pos_iff.mpr hu; omega
  have gen : ∀ (k : Nat) (n : Nat), n < k * u.length → (List.replicate k u).flatten[n]? = u[n % u.length]? := by
    intro k
    induction k with
    | zero => intro n hn; simp at hn
    | succ k ih =>
      intro n hn
      rw [List.replicate_succ, List.flatten_cons]
      by_cases c : n < u.length
      · rw [List.getElem?_append_left c, Nat.mod_eq_of_lt c]
      · rw [List.getElem?_append_right (by omega), ih (n - u.length) (by rw [Nat.succ_mul] at hn; omega), ← Nat.mod_eq_sub_mod (by omega)]
  have pk : (0 : Int) < k * u.length := Int.mul_pos (by omega) pu
  have r0 := Int.emod_nonneg t (by omega : (k : Int) * u.length ≠ 0)
  have r1 := Int.emod_lt_of_pos t pk
  rw [← cy_mod u t, ← cy_mod _ t]
  rw [hl]
  have e2 : t % (u.length : Int) = t % ((k : Int) * u.length) % u.length := by
    rw [Int.emod_emod_of_dvd t (Int.dvd_mul_left (k : Int) (u.length : Int))]
  rw [e2]
  generalize t % ((k : Int) * u.length) = r at *
  obtain ⟨n, rfl⟩ := Int.eq_ofNat_of_zero_le r0
  have hn : n < k * u.length := by
    have : ((n : Nat) : Int) < ((k * u.length : Nat) : Int) := by rw [Int.natCast_mul]; exact r1
    omega
  have hn2 : n < (List.replicate k u).flatten.length := by rw [rep_len]; exact hn
  have hm : n % u.length < u.length := Nat.mod_lt _ (by omega)
  have a := cy_at hn2
  rw [gen k n hn, cy_at hm] at a
  rw [← Int.natCast_emod]
  exact (Option.some.inj a).symm
/-- the least period of a row -/
theorem least_per {A : List Str} (hA : A ≠ []) : (∀ t, cy (A.take (leastN A)) t = cy A t) ∧ leastN A ≤ A.length ∧ 0 < leastN A ∧ (∀ t, cy A (t + (leastN A : Int)) = cy A t) ∧
    ∀ q : Nat, 0 < q → q ∣ A.length → (∀ t, cy A (t + (q : Int)) = cy A t) → leastN A ≤ q := by
  obtain ⟨i, hi⟩ := least_some hA
  have hS : leastN A = i + 1 := by unfold leastN; rw [hi]
  rw [List.find?_range_eq_some] at hi
  obtain ⟨h1, h2, h3⟩ := hi
  have h2 := List.mem_range.mp h2
  unfold perR at h1
  simp only [Bool.and_eq_true, decide_eq_true_eq] at h1
  obtain ⟨d1, d2⟩ := h1
  have hk1 : 1 ≤ A.length / (i + 1) := by
    rw [Nat.le_div_iff_mul_le (by omega)]
    omega
  have hc : ∀ t, cy (A.take (i + 1)) t = cy A t := fun t => by
    conv => rhs; rw [d2]
    exact (rep_cy hk1 t).symm
  have hl : (A.take (i + 1)).length = i + 1 := by rw [List.length_take]; omega
  rw [hS]
  refine ⟨hc, by omega, by omega, fun t => ?_, fun q q0 qd hq => ?_⟩
  · rw [← hc, ← hc]
    have := cy_add (A.take (i + 1)) t 1
    rw [hl] at this
    simpa using this
  · rcases Nat.lt_or_ge q (i + 1) with z | z
    · exfalso
      have e : A = (List.replicate (A.length / q) (A.take q)).flatten := by
        have e0 : A.length / q * q = A.length := Nat.div_mul_cancel qd
        have lq : (A.take q).length = q := by rw [List.length_take]; omega
        have hkq : 1 ≤ A.length / q := by rw [Nat.le_div_iff_mul_le q0]; omega
        apply List.ext_getElem?
        intro n
        by_cases hn : n < A.length
        · have hn2 : n < (List.replicate (A.length / q) (A.take q)).flatten.length := by rw [rep_len, lq, e0]; exact hn
          rw [cy_at hn, cy_at hn2, rep_cy hkq]
          congr 1
          have hm : n % q < q := Nat.mod_lt _ q0
          have a : cy A (n : Int) = cy A ((n % q : Nat) : Int) := by
            have := per_k hq (n / q) ((n % q : Nat) : Int)
            rw [← this]
            congr 1
            have := Nat.mod_add_div n q
            rw [Nat.mul_comm] at this
            have h := congrArg (fun z : Nat => (z : Int)) this
            simp only [Int.natCast_add, Int.natCast_mul] at h
            exact h.symm
          have b : cy (A.take q) (n : Int) = cy (A.take q) ((n % q : Nat) : Int) := by
            rw [← cy_mod (A.take q) (n : Int), lq, Int.natCast_emod]
          rw [a, b]
          have c1 := cy_at (A := A) (j := n % q) (by omega)
          have c2 := cy_at (A := A.take q) (j := n % q) (by omega)
          rw [List.getElem?_take, if_pos hm, c1] at c2
          exact Option.some.inj c2
        · rw [List.getElem?_eq_none (by omega), List.getElem?_eq_none (by rw [rep_len, lq, e0]; omega)]
      have := perR_of (k := A.length / q) (u := A.take q) (by rw [Nat.le_div_iff_mul_le q0]; omega) (by
        intro w
        have := congrArg List.length w
        rw [List.length_take, List.length_nil] at this
        omega) e
      rw [show (A.take q).length - 1 = q - 1 by rw [List.length_take]; omega] at this
      have h4 := h3 (q - 1) (by omega)
      rw [this] at h4
      simp at h4
    · exact z
theorem least_shift {A B : List Str} (hA : A ≠ []) (hB : B ≠ []) {s : Int} (h : ∀ t, cy A t = cy B (t + s)) : leastN A = leastN B := by
  have le : ∀ {A B : List Str} (hA : A ≠ []) (hB : B ≠ []) {s : Int} (h : ∀ t, cy A t = cy B (t + s)), leastN B ≤ leastN A := by
    intro A B hA hB s h
    obtain ⟨a1, a2, a3, a4, a5⟩ := least_per hA
    obtain ⟨b1, b2, b3, b4, b5⟩ := least_per hB
    have pB : ∀ t, cy B (t + (leastN A : Int)) = cy B t := fun t => by
      have := a4 (t - s)
      rw [h, h, show t - s + (leastN A : Int) + s = t + leastN A by omega, show t - s + s = t by omega] at this
      exact this
    have pl : ∀ t, cy B (t + (B.length : Int)) = cy B t := fun t => by simpa using cy_add B t 1
    have pg := per_gcd _ _ pB pl
    have := b5 (Nat.gcd (leastN A) B.length) (Nat.gcd_pos_of_pos_left _ a3) (Nat.gcd_dvd_right _ _) pg
    have := Nat.gcd_le_left B.length a3
    omega
  have h1 := le hA hB h
  have h2 := le hB hA (s := -s) fun t => by
    rw [h]
    congr 1
    omega
  omega
end PH
namespace PH
open PySem PySem.Spec PyProof.Rows L2 VL PF WY
/-! ### turns, and the least of them -/
def turnL (S : List Ph) (a : Nat) : List Ph := S.drop a ++ S.take a
structure GS (S : List Ph) : Prop where
  g : GL S
  two : 1 < S.length
theorem turn_adj {S : List Ph} (h : GS S) (a : Nat) : Adj (turnL S a) := by
  have e := List.take_append_drop a S
  have had := h.g.adj
  rw [← e] at had
  obtain ⟨a1, a2, a3⟩ := adj_app.mp had
  unfold turnL
  refine adj_app.mpr ⟨a2, a1, ?_⟩
  by_cases c1 : S.drop a = []
  · exact .inl c1
  by_cases c2 : S.take a = []
  · exact .inr (.inl c2)
  refine .inr (.inr ?_)
  have l1 : lastC (S.drop a) = lastC S := by
    conv => rhs; rw [← e]
    exact (lastC_app c1).symm
  have l2 : hd (S.take a) = hd S := by
    conv => rhs; rw [← e]
    exact (hd_app c2).symm
  rw [l1, l2]
  exact h.g.ends h.two
theorem turn_mem {S : List Ph} {a : Nat} {p : Ph} : p ∈ turnL S a → p ∈ S := by
  unfold turnL
  intro hp
  rcases List.mem_append.mp hp with h | h
  · exact List.mem_of_mem_drop h
  · exact List.mem_of_mem_take h
theorem turn_pos {S : List Ph} (h : GS S) (a : Nat) : Pos (turnL S a) := fun p hp => h.g.pos p (turn_mem hp)
/-- the tenths of a turn -/
theorem turn_ticks {S : List Ph} (h : GS S) {a : Nat} (ha : a ≤ S.length) : ticks (turnL S a) = (List.range (ticks S).length).map fun (i : Nat) => cy (ticks S) (wh (S.take a) + (i : Int)) := by
  have hp := h.g.pos
  have e : ticks S = ticks (S.take a) ++ ticks (S.drop a) := by rw [← ticks_app, List.take_append_drop]
  have hl : ((ticks (S.take a)).length : Int) = wh (S.take a) := ticks_len (hp.take a)
  have r := rot_map (A := ticks S) (k := (ticks (S.take a)).length) (by rw [e]; simp)
  unfold turnL
  rw [ticks_app]
  have d1 : (ticks S).drop (ticks (S.take a)).length = ticks (S.drop a) := by
    conv => lhs; rw [e]
    rw [List.drop_left]
  have d2 : (ticks S).take (ticks (S.take a)).length = ticks (S.take a) := by
    conv => lhs; rw [e]
    rw [List.take_left]
  rw [d1, d2, hl] at r
  exact r
/-- a change of colour stands where a phase begins -/
theorem beg_chg {S : List Ph} (h : GS S) {a : Nat} (ha : a < S.length) : cy (ticks S) (wh (S.take a) - 1) ≠ cy (ticks S) (wh (S.take a)) := by
  have hp := h.g.pos
  by_cases a0 : a = 0
  · subst a0
    exact ends_cy h.g h.two
  · have l0 : Lies S (wh (S.take a)) a 0 := ⟨ha, Int.le_refl _, by have := hp _ (ph_mem ha); omega, 0, by omega⟩
    have hb : a - 1 < S.length := by omega
    have h1 := hp _ (ph_mem hb)
    have e : wh (S.take a) = wh (S.take (a - 1)) + (ph S (a - 1)).2 := by
      rw [← wh_succ hb, show a - 1 + 1 = a by omega]
    have l1 : Lies S (wh (S.take a) - 1) (a - 1) ((ph S (a - 1)).2 - 1) := ⟨hb, by omega, by omega, 0, by omega⟩
    rw [l1.here hp, l0.here hp]
    have := adj_at h.g.adj (a - 1) (by omega)
    rwa [show a - 1 + 1 = a by omega] at this
theorem turn_eq {S T : List Ph} (hS : GS S) (hT : GS T) (hl : (ticks S).length = (ticks T).length) {s : Int} (h : ∀ x, cy (ticks S) x = cy (ticks T) (x + s)) {a : Nat} (ha : a < S.length) : ∃ b, b < T.length ∧ turnL S a = turnL T b := by
  have c := beg_chg hS ha
  rw [h, h, show wh (S.take a) - 1 + s = wh (S.take a) + s - 1 by omega] at c
  have hm := change_beg hT.g.pos hT.g.ne c
  unfold begs at hm
  obtain ⟨b, hb, e⟩ := List.mem_map.mp hm
  have hb : b < T.length := by simpa using hb
  have hlT : ((ticks T).length : Int) = wh T := ticks_len hT.g.pos
  refine ⟨b, hb, ticks_inj (turn_adj hS a) (turn_pos hS a) (turn_adj hT b) (turn_pos hT b) ?_⟩
  rw [turn_ticks hS (Nat.le_of_lt ha), turn_ticks hT (Nat.le_of_lt hb), hl]
  refine List.map_congr_left fun i _ => ?_
  rw [h, e]
  refine cy_congr ?_
  rw [hlT, Int.emod_add_emod]
  congr 1
  omega
/-! order -/
abbrev Cd := List (Int × Int)
def ltL : Cd → Cd → Bool
  | _, [] => false
  | [], _ :: _ => true
  | p :: a, q :: b => if p = q then ltL a b else decide (p.1 < q.1 ∨ (p.1 = q.1 ∧ p.2 < q.2))
theorem ltL_irr : ∀ a, ltL a a = false
  | [] => rfl
  | p :: a => by unfold ltL; rw [if_pos rfl]; exact ltL_irr a
theorem ltL_tri : ∀ {a b : Cd}, ltL a b = false → ltL b a = false → a = b
  | [], [], _, _ => rfl
  | [], _ :: _, h, _ => by simp [ltL] at h
  | _ :: _, [], _, h => by simp [ltL] at h
  | p :: a, q :: b, h1, h2 => by
    unfold ltL at h1 h2
    by_cases e : p = q
    · subst e
      rw [if_pos rfl] at h1 h2
      rw [ltL_tri h1 h2]
    · rw [if_neg e] at h1
      rw [if_neg (Ne.symm e)] at h2
      exfalso
      apply e
      have h1 := of_decide_eq_false h1
      have h2 := of_decide_eq_false h2
      apply Prod.ext <;> omega
theorem ltL_trans : ∀ {a b c : Cd}, ltL a b = true → ltL b c = true → ltL a c = true
  | _, _, [], _, h => by simp [ltL] at h
  | _, [], _ :: _, h, _ => by simp [ltL] at h
  | [], _ :: _, _ :: _, _, _ => rfl
  | p :: a, q :: b, r :: c, h1, h2 => by
    unfold ltL at h1 h2 ⊢
    by_cases e1 : p = q
    · subst e1
      rw [if_pos rfl] at h1
      by_cases e2 : p = r
      · rw [if_pos e2] at h2 ⊢
        exact ltL_trans h1 h2
      · rw [if_neg e2] at h2 ⊢
        exact h2
    · rw [if_neg e1] at h1
      by_cases e2 : q = r
      · subst e2
        rw [if_neg e1]
        exact h1
      · rw [if_neg e2] at h2
        have h1 := of_decide_eq_true h1
        have h2 := of_decide_eq_true h2
        have e3 : p ≠ r := fun z => by subst z; omega
        rw [if_neg e3]
        exact decide_eq_true (by omega)
def colIx (c : Str) : Int := (COL.findIdx fun x => x == c : Nat)
def codeP (p : Ph) : Int × Int := (colIx p.1, p.2)
def code (ps : List Ph) : Cd := ps.map codeP
theorem colIx_inj {c d : Str} (hc : c ∈ COL) (hd : d ∈ COL) (e : colIx c = colIx d) : c = d := by
  have h : ∀ c ∈ COL, COL[(colIx c).toNat]? = some c := by decide +kernel
  have a := h c hc
  have b := h d hd
  rw [e, b] at a
  exact (Option.some.inj a).symm
theorem code_inj : ∀ {a b : List Ph}, (∀ p ∈ a, p.1 ∈ COL) → (∀ p ∈ b, p.1 ∈ COL) → code a = code b → a = b
  | [], [], _, _, _ => rfl
  | [], _ :: _, _, _, e => by simp [code] at e
  | _ :: _, [], _, _, e => by simp [code] at e
  | p :: a, q :: b, h1, h2, e => by
    simp only [code, List.map_cons, List.cons.injEq, codeP, Prod.mk.injEq] at e
    rw [code_inj (fun x hx => h1 x (List.mem_cons_of_mem _ hx)) (fun x hx => h2 x (List.mem_cons_of_mem _ hx)) e.2]
    congr 1
    exact Prod.ext (colIx_inj (h1 p List.mem_cons_self) (h2 q List.mem_cons_self) e.1.1) e.1.2
structure IsLeast (S r : List Ph) : Prop where
  ex : ∃ a, a < S.length ∧ r = turnL S a
  le : ∀ a, a < S.length → ltL (code (turnL S a)) (code r) = false
theorem GS.col {S : List Ph} (h : GS S) (a : Nat) : ∀ p ∈ turnL S a, p.1 ∈ COL := fun p hp => (isPh_pos (h.g.ok p (turn_mem hp))).2.2
theorem least_uniq {S r r' : List Ph} (hS : GS S) (h : IsLeast S r) (h' : IsLeast S r') : r = r' := by
  obtain ⟨a, ha, rfl⟩ := h.ex
  obtain ⟨b, hb, rfl⟩ := h'.ex
  exact code_inj (hS.col a) (hS.col b) (ltL_tri (h'.le a ha) (h.le b hb))
theorem least_same {S T r : List Ph} (hS : GS S) (hT : GS T) (hl : (ticks S).length = (ticks T).length) {s : Int} (h : ∀ x, cy (ticks S) x = cy (ticks T) (x + s)) (hr : IsLeast S r) : IsLeast T r := by
  obtain ⟨a, ha, rfl⟩ := hr.ex
  refine ⟨turn_eq hS hT hl h ha, fun b hb => ?_⟩
  obtain ⟨c, hc, e⟩ := turn_eq hT hS hl.symm (s := -s) (fun x => by rw [h]; congr 1; omega) hb
  rw [e]
  exact hr.le c hc
/-- the shortest form -/
theorem short_gs {W : List Ph} (g : GS W) : GS (shortP W) ∧ (∀ t, cy (ticks (shortP W)) t = cy (ticks W) t) ∧ (ticks (shortP W)).length = leastN (ticks W) := by
  have hA := ticks_ne g.g.pos g.g.ne
  obtain ⟨p1, p2, p3, p4, p5⟩ := least_per hA
  have e := short_runs g.g g.two
  obtain ⟨r1, r2, r3⟩ := runs_any ((ticks W).take (leastN (ticks W)))
  rw [← e] at r1 r2 r3
  have hlen : (ticks (shortP W)).length = leastN (ticks W) := by rw [r3, List.length_take]; omega
  have hc : ∀ t, cy (ticks (shortP W)) t = cy (ticks W) t := by rw [r3]; exact p1
  have hne : shortP W ≠ [] := fun z => by
    rw [z] at hlen
    simp at hlen
    omega
  have hl := short_len g.g g.two
  have hl0 := List.length_pos_iff.mpr hne
  refine ⟨⟨⟨hne, fun p hp => ?_, r1, fun h1 => ?_⟩, by omega⟩, hc, hlen⟩
  · unfold shortP at hp
    split at hp
    · exact g.g.ok p (List.mem_of_mem_take hp)
    · exact g.g.ok p hp
  · rw [← ticks_lastC r2, ← ticks_hd r2]
    have hR : ticks (shortP W) ≠ [] := ticks_ne r2 hne
    have e1 : (ticks (shortP W)).head? = some (cy (ticks W) 0) := by
      rw [List.head?_eq_getElem?, cy_at (List.length_pos_iff.mpr hR), hc]
      rfl
    have e2 : (ticks (shortP W)).getLast? = some (cy (ticks W) (-1)) := by
      rw [List.getLast?_eq_getElem?, cy_at (by have := List.length_pos_iff.mpr hR; omega), hc]
      have hlp := List.length_pos_iff.mpr hR
      have := p4 (-1)
      rw [← this]
      congr 2
      omega
    rw [e1, e2]
    intro z
    exact ends_cy g.g g.two (Option.some.inj z)
/-- what has one least turn shows the same but for a shift -/
theorem least_iff {V W r r' : List Ph} (hV : GS V) (hW : GS W) (h : IsLeast (shortP V) r) (h' : IsLeast (shortP W) r') : r = r' ↔ Shift (ticks V) (ticks W) := by
  obtain ⟨v1, v2, v3⟩ := short_gs hV
  obtain ⟨w1, w2, w3⟩ := short_gs hW
  have hA := ticks_ne hV.g.pos hV.g.ne
  have hB := ticks_ne hW.g.pos hW.g.ne
  constructor
  · intro e
    obtain ⟨a, ha, e1⟩ := h.ex
    obtain ⟨b, hb, e2⟩ := h'.ex
    have et : ticks (turnL (shortP V) a) = ticks (turnL (shortP W) b) := by rw [← e1, ← e2, e]
    rw [turn_ticks v1 (Nat.le_of_lt ha), turn_ticks w1 (Nat.le_of_lt hb)] at et
    have hlen := congrArg List.length et
    simp only [List.length_map, List.length_range] at hlen
    have lv := (least_per hA).2.2.1
    have lw := (least_per hB).2.2.1
    refine ⟨wh ((shortP V).take a), wh ((shortP W).take b), ?_⟩
    rw [same_none hA hB]
    intro k
    rw [← v2, ← w2]
    have q : ∀ i : Nat, i < (ticks (shortP V)).length → cy (ticks (shortP V)) (wh ((shortP V).take a) + (i : Int)) = cy (ticks (shortP W)) (wh ((shortP W).take b) + (i : Int)) := fun i hi => by
      have z := congrArg (fun l : List Str => l[i]?) et
      simp only [List.getElem?_map, List.getElem?_range hi, ← hlen, Option.map_some] at z
      exact Option.some.inj z
    have pl : 0 < (ticks (shortP V)).length := by rw [v3]; exact lv
    have := q (k % (ticks (shortP V)).length) (Nat.mod_lt _ pl)
    have f1 : cy (ticks (shortP V)) (wh ((shortP V).take a) + ((k % (ticks (shortP V)).length : Nat) : Int)) = cy (ticks (shortP V)) (wh ((shortP V).take a) + (k : Int)) := cy_congr (by rw [Int.natCast_emod, Int.add_emod_emod])
    have f2 : cy (ticks (shortP W)) (wh ((shortP W).take b) + ((k % (ticks (shortP V)).length : Nat) : Int)) = cy (ticks (shortP W)) (wh ((shortP W).take b) + (k : Int)) := cy_congr (by rw [hlen, Int.natCast_emod, Int.add_emod_emod])
    rw [f1, f2] at this
    exact this
  · intro z
    obtain ⟨t, ht, _⟩ := shift_0 hA hB z
    have hl : (ticks (shortP V)).length = (ticks (shortP W)).length := by rw [v3, w3, least_shift hA hB ht]
    have := least_same v1 w1 hl (s := t) (fun x => by rw [v2, w2]; exact ht x) h
    exact least_uniq w1 this h'
end PH
namespace PH
open PySem PySem.Spec PyProof.Rows L2 VL PF WY
variable {F : Nat → List PV → R PV}
/-! ### the order of data -/
def encCq (q : Int × Int) : PV := .tup [.int q.1, .int q.2]
def encCd (c : Cd) : PV := .lst (c.map encCq)
def dCq (q : Int × Int) : PyData := .tuple [.int q.1, .int q.2]
def dCd (c : Cd) : PyData := .list (c.map dCq)
theorem data_cq (q : Int × Int) : (encCq q).data = some (dCq q) := rfl
theorem datas_cq : ∀ c : Cd, PV.datas (c.map encCq) = some (c.map dCq)
  | [] => rfl
  | q :: c => by simp only [List.map_cons, PV.datas, data_cq, datas_cq c, Option.bind_some, Option.map_some]
theorem data_cd (c : Cd) : (encCd c).data = some (dCd c) := by
  show (PV.datas (c.map encCq)).map _ = _
  rw [datas_cq]
  rfl
theorem datas_cds : ∀ cs : List Cd, PV.datas (cs.map encCd) = some (cs.map dCd)
  | [] => rfl
  | c :: cs => by simp only [List.map_cons, PV.datas, data_cd, datas_cds cs, Option.bind_some, Option.map_some]
theorem alike_q (p q : Int × Int) : PySem.W.alike (dCq p) (dCq q) = true := by simp [dCq, PySem.W.alike, PySem.W.alikeAll]
theorem alike_cds : ∀ a b : Cd, PySem.W.alikeAll (a.map dCq) (b.map dCq) = true
  | [], b => by simp [PySem.W.alikeAll]
  | _ :: _, [] => by simp [PySem.W.alikeAll]
  | p :: a, q :: b => by
    simp only [List.map_cons, PySem.W.alikeAll, alike_q, alike_cds a b, Bool.and_self]
theorem alike_cd (a b : Cd) : PySem.W.alike (dCd a) (dCd b) = true := by
  show PySem.W.alike (.list _) (.list _) = true
  rw [PySem.W.alike]
  exact alike_cds a b
theorem eqv_cq (p q : Int × Int) : PyData.eqv (dCq p) (dCq q) = decide (p = q) := by
  simp only [dCq, PyData.eqv, PyData.eqvAll, Bool.and_true]
  by_cases h1 : p.1 = q.1 <;> by_cases h2 : p.2 = q.2 <;> simp [h1, h2, Prod.ext_iff]
theorem ltL_cc (p q : Int × Int) (a b : Cd) : ltL (p :: a) (q :: b) = if p = q then ltL a b else decide (p.1 < q.1 ∨ (p.1 = q.1 ∧ p.2 < q.2)) := rfl
theorem lt_cds : ∀ a b : Cd, PyProof.Rows.lexLt PyProof.Rows.itemOrd (PySem.W.keyToksAll (a.map dCq)) (PySem.W.keyToksAll (b.map dCq)) = ltL a b
  | [], [] => PyProof.Rows.lex_irrefl _
  | [], q :: b => by
    rw [List.map_cons, PySem.W.toks_all_cons]
    simp only [List.map_nil, PySem.W.keyToksAll]
    rw [PyProof.Rows.lex_diff (O := PyProof.Rows.itemOrd) (by simp)]
    rfl
  | p :: a, [] => by
    rw [List.map_cons, PySem.W.toks_all_cons]
    simp only [List.map_nil, PySem.W.keyToksAll]
    rw [PyProof.Rows.lex_diff (O := PyProof.Rows.itemOrd) (by simp)]
    rfl
  | p :: a, q :: b => by
    rw [List.map_cons, List.map_cons, PySem.W.dataLt_cons (alike_q p q), eqv_cq, lt_cds a b]
    rw [ltL_cc]
    by_cases e : p = q
    · rw [if_pos (by simpa using e), if_pos e]
    · rw [if_neg (by simpa using e), if_neg e]
      exact PySem.W.dataLt_ii _ _ _ _
theorem lt_cd (a b : Cd) : PySem.W.dataLt (dCd a) (dCd b) = ltL a b := by
  rw [dCd, dCd, PySem.W.dataLt_list]
  exact lt_cds a b
theorem depth_cq (q : Int × Int) : (dCq q).depth ≤ 2 := by simp [dCq, PyData.depth, PyData.depthAll]
theorem depth_cqs : ∀ c : Cd, PyData.depthAll (c.map dCq) ≤ 2
  | [] => by simp [PyData.depthAll]
  | q :: c => by
    simp only [List.map_cons, PyData.depthAll]
    have := depth_cq q
    have := depth_cqs c
    omega
theorem depth_cd (c : Cd) : (dCd c).depth ≤ 3 := by
  have := depth_cqs c
  simp only [dCd, PyData.depth]
  omega
theorem depth_cds : ∀ cs : List Cd, PyData.depthAll (cs.map dCd) ≤ 3
  | [] => by simp [PyData.depthAll]
  | c :: cs => by
    simp only [List.map_cons, PyData.depthAll]
    have := depth_cd c
    have := depth_cds cs
    omega
theorem ltD_cd (a b : Cd) : ltD (encCd a) (encCd b) = some (.bl (ltL a b)) := by
  unfold ltD
  rw [data_cd, data_cd]
  simp only
  rw [if_pos ⟨alike_cd a b, rfl, by have := depth_cd a; omega⟩, lt_cd]
theorem argBest_least {c : Nat → Cd} : ∀ n : Nat, argBest (fun i j => ltL (c i) (c j)) n ≤ n ∧ ∀ i ≤ n, ltL (c i) (c (argBest (fun i j => ltL (c i) (c j)) n)) = false
  | 0 => ⟨Nat.le_refl _, fun i hi => by
    have : i = 0 := by omega
    subst this
    exact ltL_irr _⟩
  | n + 1 => by
    obtain ⟨h1, h2⟩ := argBest_least (c := c) n
    unfold argBest
    by_cases hb : ltL (c (n + 1)) (c (argBest (fun i j => ltL (c i) (c j)) n)) = true
    · rw [if_pos hb]
      refine ⟨Nat.le_refl _, fun i hi => ?_⟩
      rcases Nat.lt_or_ge n i with z | z
      · have : i = n + 1 := by omega
        subst this
        exact ltL_irr _
      · cases e : ltL (c i) (c (n + 1)) with
        | false => rfl
        | true =>
          have := ltL_trans e hb
          rw [h2 i z] at this
          cases this
    · rw [if_neg hb]
      refine ⟨by omega, fun i hi => ?_⟩
      rcases Nat.lt_or_ge n i with z | z
      · have : i = n + 1 := by omega
        subst this
        simpa using hb
      · exact h2 i z
theorem minD_cds {cs : List Cd} (h : cs ≠ []) : ∃ k, k < cs.length ∧ minDP [.lst (cs.map encCd)] = some (encCd (cs.getD k [])) ∧ ∀ i < cs.length, ltL (cs.getD i []) (cs.getD k []) = false := by
  obtain ⟨c, r, rfl⟩ : ∃ c r, cs = c :: r := by cases cs with | nil => exact absurd rfl h | cons c r => exact ⟨c, r, rfl⟩
  have hg : ∀ i, i < (c :: r).length → ((c :: r).map dCd).getD i .none = dCd ((c :: r).getD i []) := fun i hi => by
    rw [List.getD_eq_getElem?_getD, List.getD_eq_getElem?_getD, List.getElem?_map, List.getElem?_eq_getElem hi]
    rfl
  have eb : ∀ n, n < (c :: r).length → argBest (lessAt ((c :: r).map dCd)) n = argBest (fun i j => ltL ((c :: r).getD i []) ((c :: r).getD j [])) n ∧ argBest (lessAt ((c :: r).map dCd)) n ≤ n := by
    intro n
    induction n with
    | zero => intro _; exact ⟨rfl, Nat.le_refl _⟩
    | succ n ih =>
      intro hn
      obtain ⟨a, b⟩ := ih (by omega)
      have e : ∀ m, m ≤ n → lessAt ((c :: r).map dCd) (n + 1) m = ltL ((c :: r).getD (n + 1) []) ((c :: r).getD m []) := fun m hm => by
        show PySem.W.dataLt (((c :: r).map dCd).getD (n + 1) .none) (((c :: r).map dCd).getD m .none) = _
        rw [hg _ hn, hg _ (Nat.lt_of_le_of_lt hm (by omega)), lt_cd]
      unfold argBest
      rw [e _ b, a]
      refine ⟨rfl, ?_⟩
      split <;> omega
  obtain ⟨a, b⟩ := eb r.length (by simp)
  obtain ⟨h1, h2⟩ := argBest_least (c := fun i => (c :: r).getD i []) r.length
  refine ⟨argBest (fun i j => ltL ((c :: r).getD i []) ((c :: r).getD j [])) r.length, Nat.lt_succ_of_le h1, ?_, fun i hi => h2 i (by simp at hi; omega)⟩
  have eA : alikeB ((c :: r).map dCd) = true := by
    unfold alikeB
    rw [Bool.and_eq_true, List.all_eq_true, List.all_eq_true]
    refine ⟨fun x hx => List.all_eq_true.mpr fun y hy => ?_, fun x hx => ?_⟩
    · obtain ⟨x', _, rfl⟩ := List.mem_map.mp hx
      obtain ⟨y', _, rfl⟩ := List.mem_map.mp hy
      exact alike_cd _ _
    · obtain ⟨x', _, rfl⟩ := List.mem_map.mp hx
      rfl
  have eD := depth_cds (c :: r)
  have eN : minDP [.lst ((c :: r).map encCd)] = (match PV.datas ((c :: r).map encCd) with
    | some (d :: ds) => if alikeB (d :: ds) = true ∧ PyData.depthAll (d :: ds) ≤ 60 then ((c :: r).map encCd)[argBest (lessAt (d :: ds)) ds.length]? else none
    | _ => none) := rfl
  rw [eN, datas_cds]
  rw [List.map_cons (f := dCd)] at eA eD a ⊢
  simp only
  rw [if_pos ⟨eA, by omega⟩, List.length_map, a]
  have hlt : argBest (fun i j => ltL ((c :: r).getD i []) ((c :: r).getD j [])) r.length < (c :: r).length := Nat.lt_succ_of_le h1
  rw [List.getElem?_map, List.getElem?_eq_getElem hlt, Option.map_some, List.getD_eq_getElem?_getD, List.getElem?_eq_getElem hlt]
  rfl
/-! ### the walks -/
def S_coloured (g : List PV → R PV) : Prop := ∀ ps : List Ph, (∀ p ∈ ps, p.1 ∈ COL) → ps.length ≤ 1000 → g [encPs ps] = .ok (encCd (code ps))
theorem ixCol {c : Str} (h : c ∈ COL) : idxS ct_COLOURS (.str c) = .ok (.int (colIx c)) := by
  simp only [COL, List.mem_cons, List.not_mem_nil, or_false] at h
  rcases h with h | h | h | h | h <;> subst h <;> rfl
theorem ixColL {c : Str} (h : c ∈ COL) : idxO [.str "white", .str "red", .str "green", .str "yellow", .str "dark"] (.str c) = some (.int (colIx c)) := by
  simp only [COL, List.mem_cons, List.not_mem_nil, or_false] at h
  rcases h with h | h | h | h | h <;> subst h <;> rfl
theorem code_map (ps : List Ph) : (code ps).map encCq = ps.map fun p => encCq (codeP p) := by unfold code; rw [List.map_map]; rfl
theorem sp_coloured (F : Nat → List PV → R PV) : S_coloured fun us => outR (b_coloured F (startE 3 us)) := by
  intro ps hc hl
  have it : itemsP (encPs ps) = .ok (ps.map encP) := rfl
  have comp : lcL (tT [tN 1, tN 2]) cYes (b_coloured_0 F) [some (encPs ps), none, none] (ps.map encP) = .ok ((code ps).map encCq) := by
    rw [code_map]
    refine lcL_map encP (fun p => encCq (codeP p)) ps fun p hp => ⟨_, tT_encP 1 2 p, ?_⟩
    simp -implicitDefEqProofs [b_coloured_0, ixCol (hc p hp), szl, encCq, codeP]
  have hsz : ((code ps).map encCq).length ≤ 16777216 := by rw [List.length_map]; unfold code; rw [List.length_map]; omega
  generalize hL : (code ps).map encCq = LL at *
  simp -implicitDefEqProofs [b_coloured, it, comp, szl, hsz]
  rw [← hL]
  rfl
theorem sp_lorder (F : Nat → List PV → R PV) : S_coloured fun us => outR (b__law_order F (startE 2 us)) := by
  intro ps hc hl
  have it : itemsP (encPs ps) = .ok (ps.map encP) := rfl
  have comp : lcL (tN 1) cYes (b__law_order_0 F) [some (encPs ps), none] (ps.map encP) = .ok ((code ps).map encCq) := by
    rw [code_map]
    refine lcL_map encP (fun p => encCq (codeP p)) ps fun p hp => ⟨_, rfl, ?_⟩
    simp -implicitDefEqProofs [b__law_order_0, ixColL (hc p hp), szl, encCq, codeP, encP_ix0, encP_ix1]
  have hsz : ((code ps).map encCq).length ≤ 16777216 := by rw [List.length_map]; unfold code; rw [List.length_map]; omega
  generalize hL : (code ps).map encCq = LL at *
  simp -implicitDefEqProofs [b__law_order, it, comp, szl, hsz]
  rw [← hL]
  rfl
def S_turnsL (g : List PV → R PV) : Prop := ∀ ps : List Ph, ps.length ≤ 1000 → g [encPs ps] = .ok (.lst ((List.range ps.length).map fun a => encPs (turnL ps a)))
theorem sp_turnsL (F : Nat → List PV → R PV) : S_turnsL fun us => outR (b_turns_of F (startE 2 us)) := by
  intro ps hl
  have rg := rg1_nat (n := ps.length) (by omega)
  have comp : lcL (tN 1) cYes (b_turns_of_0 F) [some (encPs ps), none] (rangeP 0 ps.length) = .ok ((List.range ps.length).map fun a => encPs (turnL ps a)) := by
    rw [rangeP_map]
    refine lcL_map (fun i : Nat => PV.int (i : Int)) (fun a => encPs (turnL ps a)) (List.range ps.length) fun a ha => ⟨_, rfl, ?_⟩
    have ha : a < ps.length := List.mem_range.mp ha
    have s1 := slP_from ps a
    have s2 := slP_to ps a
    have a1 : addP (encPs (ps.drop a)) (encPs (ps.take a)) = some (encPs (turnL ps a)) := addP_ps (by rw [List.length_drop, List.length_take]; omega)
    simp -implicitDefEqProofs [b_turns_of_0, s1, s2, a1]
  have hsz : ((List.range ps.length).map fun a => encPs (turnL ps a)).length ≤ 16777216 := by rw [List.length_map, List.length_range]; omega
  generalize (List.range ps.length).map (fun a => encPs (turnL ps a)) = LL at *
  simp -implicitDefEqProofs [b_turns_of, encPs_len, rg, comp, szl, hsz]
/-- the least turn of the shortest form, of a character that has two colours -/
def S_leastT (g : List PV → R PV) : Prop := ∀ ps : List Ph, Loose ps → 1 < (joinE ps).length → ps.length ≤ 61 → ∃ r, IsLeast (shortP (joinE ps)) r ∧ g [encPs ps] = .ok (encPs r)
theorem joinE_len {ps : List Ph} (h : Loose ps) : (joinE ps).length ≤ ps.length := by
  cases h with
  | gl g => rw [joinE_gl g]; exact Nat.le_refl _
  | ends hm e adj ok s => rw [joinE_ends e]; simp
theorem short_le (ps : List Ph) : (shortP ps).length ≤ ps.length := by
  unfold shortP
  split
  · rw [List.length_take]; omega
  · exact Nat.le_refl _
theorem sp_leastT (h384 : S_joinM (F 384)) (h563 : S_shortest (F 563)) (h637 : S_turnsL (F 637)) (h271 : S_coloured (F 271)) : S_leastT fun us => outR (b_least_of_turns F (startE 6 us)) := by
  intro ps hps h1 hl
  have lj := joinE_len hps
  have e1 := h384 ps hps (by omega)
  have gj := joinE_good hps
  have e2 := h563 (joinE ps) (good_iff.mpr gj).toChain.oks gj.ne (by omega)
  have gs := (short_gs ⟨gj, h1⟩).1
  have ls := short_le (joinE ps)
  generalize hS : shortP (joinE ps) = S at *
  have l2 := encPs_len S
  have two := gs.two
  have c1 : ¬ (S.length : Int) = 1 := by omega
  have e3 := h637 S (by omega)
  have it : itemsP (PV.lst ((List.range S.length).map fun a => encPs (turnL S a))) = .ok ((List.range S.length).map fun a => encPs (turnL S a)) := rfl
  have comp : lcL (tN 5) cYes (b_least_of_turns_0 F) [some (encPs ps), some (encPs S), none, none, none, none] ((List.range S.length).map fun a => encPs (turnL S a)) = .ok (((List.range S.length).map fun a => code (turnL S a)).map encCd) := by
    rw [List.map_map]
    refine lcL_map (fun a => encPs (turnL S a)) (fun a => encCd (code (turnL S a))) (List.range S.length) fun a ha => ⟨_, rfl, ?_⟩
    have := h271 (turnL S a) (gs.col a) (by unfold turnL; simp; omega)
    simp -implicitDefEqProofs [b_least_of_turns_0, this]
  obtain ⟨k, k1, k2, k3⟩ := minD_cds (cs := (List.range S.length).map fun a => code (turnL S a)) (by intro z; have := congrArg List.length z; simp at this; exact gs.g.ne this)
  rw [List.length_map, List.length_range] at k1 k3
  have gd : ∀ i, i < S.length → ((List.range S.length).map fun a => code (turnL S a)).getD i [] = code (turnL S i) := fun i hi => by
    rw [List.getD_eq_getElem?_getD, List.getElem?_map, List.getElem?_range hi]
    rfl
  rw [gd k k1] at k2
  refine ⟨turnL S k, ⟨⟨k, k1, rfl⟩, fun a ha => by have := k3 a ha; rwa [gd a ha, gd k k1] at this⟩, ?_⟩
  have hsz : (((List.range S.length).map fun a => code (turnL S a)).map encCd).length ≤ 16777216 := by rw [List.length_map, List.length_map, List.length_range]; omega
  have it2 : itemsP (encCd (code (turnL S k))) = .ok ((turnL S k).map fun p => encCq (codeP p)) := by
    show R.ok ((code (turnL S k)).map encCq) = _
    rw [code_map]
  have comp2 : lcL (tT [tN 3, tN 4]) cYes (b_least_of_turns_1 F) [some (encPs ps), some (encPs S), some (encCd (code (turnL S k))), none, none, none] ((turnL S k).map fun p => encCq (codeP p)) = .ok ((turnL S k).map encP) := by
    refine lcL_map (fun p => encCq (codeP p)) encP (turnL S k) fun p hp => ⟨[(3, .int (codeP p).1), (4, .int (codeP p).2)], rfl, ?_⟩
    have hc := gs.col k p hp
    have hx : ixP c_COLOURS (.int (colIx p.1)) = some (.str p.1) := by
      have hall : ∀ c ∈ COL, ixP c_COLOURS (.int (colIx c)) = some (.str c) := by
        intro c h
        simp only [COL, List.mem_cons, List.not_mem_nil, or_false] at h
        rcases h with h | h | h | h | h <;> subst h <;> rfl
      exact hall _ hc
    simp -implicitDefEqProofs [b_least_of_turns_1, codeP, hx, szl, encP]
  have hsz2 : ((turnL S k).map encP).length ≤ 16777216 := by rw [List.length_map]; unfold turnL; simp; omega
  have enc : encPs (turnL S k) = .lst ((turnL S k).map encP) := rfl
  rw [enc]
  generalize ((List.range S.length).map fun a => code (turnL S a)).map encCd = LL at *
  generalize ((turnL S k).map fun p => encCq (codeP p)) = L3 at *
  generalize (turnL S k).map encP = L4 at *
  generalize (List.range S.length).map (fun a => encPs (turnL S a)) = L5 at *
  simp -implicitDefEqProofs [b_least_of_turns, e1, e2, l2, c1, e3, it, comp, szl, hsz, k2, it2, comp2, hsz2]
end PH
namespace PH
open PySem PySem.Spec PyProof.Rows L2 VL PF WY
variable {F : Nat → List PV → R PV}
/-- a loop that is broken off, or not -/
theorem brk_or {s : VL.Env → Out} {p : Nat → Bool} {tgt n : Nat} {I : VL.Env → Prop} {f : Nat → VL.Env} {r : VL.Env} (h0 : I r) (turn : ∀ i r, i < n → I r → (p i = true → s (r.set tgt (.fz (.int (i : Int)))) = .brk (f i)) ∧ (p i = false → ∃ r', I r' ∧ s (r.set tgt (.fz (.int (i : Int)))) = .next r')) :
    (∃ k, (List.range n).find? p = some k ∧ forL (tN tgt) s (rangeP 0 n) r = .next (f k)) ∨ ((List.range n).find? p = none ∧ ∃ r', forL (tN tgt) s (rangeP 0 n) r = .next r' ∧ I r') := by
  cases e : (List.range n).find? p with
  | some k => exact .inl ⟨k, rfl, brk_loop h0 turn e⟩
  | none =>
    refine .inr ⟨rfl, ?_⟩
    refine forL_by (Q := fun o => ∃ r', o = .next r' ∧ I r') (fun i r => I r) h0 (fun i w r hv hi => ?_) (fun r hr => ⟨r, rfl, hr⟩)
    obtain ⟨hi1, rfl⟩ := rangeP_get hv
    have e2 : setS [(tgt, PV.int (0 + (i : Int)))] r = r.set tgt (.fz (.int (i : Int))) := by simp
    have hp : p i = false := by
      have := List.find?_eq_none.mp e i (List.mem_range.mpr hi1)
      simpa using this
    obtain ⟨r', h1, h2⟩ := (turn i r hi1 hi).2 hp
    exact ⟨_, rfl, .inl ⟨r', .inl (by rw [e2]; exact h2), h1⟩⟩
theorem ixR {A : List Str} {t : Int} (h0 : -(A.length : Int) ≤ t) (h1 : t < A.length) : ixP (encR A) (.int t) = some (.str (cy A t)) := by
  show atI (A.map PV.str) t = _
  rw [atI_map]
  by_cases c : 0 ≤ t
  · obtain ⟨n, rfl⟩ := Int.eq_ofNat_of_zero_le c
    rw [atI_nat (j := n) (cy_at (by omega))]
    rfl
  · have : atI A t = some (cy A t) := by
      unfold atI ixN
      rw [if_neg c, if_pos h0]
      simp only [Option.bind_some]
      rw [cy_at (by omega)]
      congr 1
      rw [← cy_add A t 1]
      congr 1
      omega
    rw [this]
    rfl
/-! ### _law_shift -/
def S_lshift (g : List PV → R PV) : Prop := ∀ ps qs : List Ph, Pos ps → ps ≠ [] → Pos qs → qs ≠ [] → wh ps ≤ 1000 → wh qs ≤ 1000 → g [encPs ps, encPs qs] = .ok (oint (shiftO (ticks ps) (ticks qs)))
theorem sp_lshift (h128 : S_ticks (F 128)) : S_lshift fun us => outR (b__law_shift F (startE 7 us)) := by
  intro ps qs hp np hq nq wp wq
  have e1 := h128 ps hp (by omega)
  have e2 := h128 qs hq (by omega)
  have hA := ticks_ne hp np
  have hB := ticks_ne hq nq
  have lA : ((ticks ps).length : Int) = wh ps := ticks_len hp
  have lB : ((ticks qs).length : Int) = wh qs := ticks_len hq
  unfold shiftO
  generalize ticks ps = A at *
  generalize ticks qs = B at *
  have pA := List.length_pos_iff.mpr hA
  have pB := List.length_pos_iff.mpr hB
  have bA : (A.length : Int) < bigI := bigI_of (by omega)
  have bB : (B.length : Int) < bigI := bigI_of (by omega)
  have nM : A.length * B.length ≤ 1000 * 1000 := Nat.mul_le_mul (by omega) (by omega)
  have mk : mulOk (A.length : Int) (B.length : Int) = true := mulOk_l (by omega)
  have rg : rg1 ((A.length : Int) * (B.length : Int)) = .ok (rangeP 0 (A.length * B.length)) := by
    have := rg1_nat (n := A.length * B.length) (by omega)
    rwa [Int.natCast_mul] at this
  have rgB : rg1 (B.length : Int) = .ok (rangeP 0 B.length) := rg1_nat (by omega)
  -- what is found by the inner loop
  have inner : ∀ (t : Nat) (x6 : Sl), ∃ x, forL (tN 6) (b__law_shift_0 F) (rangeP 0 (A.length * B.length)) [.fz (encPs ps), .fz (encPs qs), .fz (encR A), .fz (encR B), .fz (.int (t : Int)), .fz (.bl true), x6] = .next [.fz (encPs ps), .fz (encPs qs), .fz (encR A), .fz (encR B), .fz (.int (t : Int)), .fz (.bl (shB A B (t : Int))), x] := by
    intro t x6
    have bd := brk_or (s := b__law_shift_0 F) (p := fun k => decide (cy A (k : Int) ≠ cy B ((t : Int) + (k : Int)))) (tgt := 6) (n := A.length * B.length) (I := fun r => ∃ x, r = [.fz (encPs ps), .fz (encPs qs), .fz (encR A), .fz (encR B), .fz (.int (t : Int)), .fz (.bl true), x]) (f := fun k => [.fz (encPs ps), .fz (encPs qs), .fz (encR A), .fz (encR B), .fz (.int (t : Int)), .fz (.bl false), .fz (.int (k : Int))]) (r := [.fz (encPs ps), .fz (encPs qs), .fz (encR A), .fz (encR B), .fz (.int (t : Int)), .fz (.bl true), x6]) ⟨_, rfl⟩ (fun k r hk ⟨x, er⟩ => by
      subst er
      have f1 := encR_cy hA (k : Int)
      have f2 := encR_cy hB ((t : Int) + (k : Int))
      constructor
      · intro h
        have h : ¬ cy A (k : Int) = cy B ((t : Int) + (k : Int)) := by simpa using h
        simp -implicitDefEqProofs [b__law_shift_0, lenP_R, pA, pB, bA, bB, f1, f2, h]
      · intro h
        have h : cy A (k : Int) = cy B ((t : Int) + (k : Int)) := by simpa using h
        exact ⟨_, ⟨_, rfl⟩, by simp -implicitDefEqProofs [b__law_shift_0, lenP_R, pA, pB, bA, bB, f1, f2, h]; rfl⟩)
    rcases bd with ⟨k, hk, hf⟩ | ⟨hn, r', hf, x, er⟩
    · have : shB A B (t : Int) = false := by
        cases e : shB A B (t : Int) with
        | false => rfl
        | true =>
          rw [List.find?_range_eq_some] at hk
          have h1 := (shB_iff hA hB).mp e k
          have h2 := hk.1
          simp at h2
          exact absurd h1 h2
      rw [this]
      exact ⟨_, hf⟩
    · have : shB A B (t : Int) = true := by
        rw [shB_iff hA hB]
        intro k
        have hm : k % (A.length * B.length) < A.length * B.length := Nat.mod_lt _ (Nat.mul_pos pA pB)
        have := List.find?_eq_none.mp hn (k % (A.length * B.length)) (List.mem_range.mpr hm)
        have h1 : cy A ((k % (A.length * B.length) : Nat) : Int) = cy B ((t : Int) + ((k % (A.length * B.length) : Nat) : Int)) := by simpa using this
        have f1 : cy A ((k % (A.length * B.length) : Nat) : Int) = cy A (k : Int) := cy_congr (by
          rw [← Int.natCast_emod, ← Int.natCast_emod, Nat.mod_mul_right_mod])
        have f2 : cy B ((t : Int) + ((k % (A.length * B.length) : Nat) : Int)) = cy B ((t : Int) + (k : Int)) := cy_congr (by
          have q : (t + k % (A.length * B.length)) % B.length = (t + k) % B.length := by rw [Nat.add_mod, Nat.mod_mul_left_mod, ← Nat.add_mod]
          rw [← Int.natCast_add, ← Int.natCast_add, ← Int.natCast_emod, ← Int.natCast_emod, q])
        rw [f1, f2] at h1
        exact h1
      rw [this]
      exact ⟨x, by rw [hf, er]⟩
  rcases find_loop (s := b__law_shift_1 F) (p := fun t => shB A B (t : Int)) (v := fun t => .int (t : Int)) (tgt := 4) (n := B.length) (I := fun r => ∃ x4 x5 x6, r = [.fz (encPs ps), .fz (encPs qs), .fz (encR A), .fz (encR B), x4, x5, x6]) (r := [.fz (encPs ps), .fz (encPs qs), .fz (encR A), .fz (encR B), .no, .no, .no]) ⟨_, _, _, rfl⟩ (fun t r ht ⟨x4, x5, x6, er⟩ => by
      subst er
      obtain ⟨x, hx⟩ := inner t x6
      refine ⟨[.fz (encPs ps), .fz (encPs qs), .fz (encR A), .fz (encR B), .fz (.int (t : Int)), .fz (.bl (shB A B (t : Int))), x], ⟨_, _, _, rfl⟩, ?_⟩
      cases hs : shB A B (t : Int) <;> rw [hs] at hx <;> simp -implicitDefEqProofs [b__law_shift_1, lenP_R, mk, rg, hx]) with ⟨r', f1, ⟨x4, x5, x6, rfl⟩, f2⟩ | ⟨k, f1, f2⟩
  · rw [f2]
    simp -implicitDefEqProofs [b__law_shift, e1, e2, lenP_R, rgB, f1, oint]
  · rw [f2]
    simp -implicitDefEqProofs [b__law_shift, e1, e2, lenP_R, rgB, f1, oint]
/-! ### _law_turn -/
theorem wh_mono {S : List Ph} (hp : Pos S) {a b : Nat} (h : a < b) (hb : b ≤ S.length) : wh (S.take a) < wh (S.take b) := by
  have e : S.take (a + 1) = (S.take b).take (a + 1) := by rw [List.take_take, Nat.min_eq_left (by omega)]
  have h3 : wh (S.take b) = wh ((S.take b).take (a + 1)) + wh ((S.take b).drop (a + 1)) := by rw [← wh_app, List.take_append_drop]
  rw [← e, wh_succ (by omega)] at h3
  have h4 := wh_nn ((hp.take b).drop (a + 1))
  have h5 := hp _ (ph_mem (show a < S.length by omega))
  omega
theorem ded_two {A : List Str} {x y : Int} (hA : A ≠ []) (h : cy A x ≠ cy A y) : (ded A).length ≠ 1 := by
  intro e
  obtain ⟨z, hz⟩ := List.length_eq_one_iff.mp e
  have m : ∀ t : Int, cy A t ∈ A := fun t => by
    have hl := List.length_pos_iff.mpr hA
    have h0 := Int.emod_nonneg t (show (A.length : Int) ≠ 0 by omega)
    have h1 := Int.emod_lt_of_pos t (show (0 : Int) < A.length by omega)
    have := cy_at (A := A) (j := (t % (A.length : Int)).toNat) (by omega)
    rw [Int.toNat_of_nonneg h0, cy_mod] at this
    exact List.mem_of_getElem? this
  have q : ∀ t : Int, cy A t = z := fun t => by
    have h1 := ded_any (cy A t) A.length A rfl
    rw [hz] at h1
    have h2 : A.any (· == cy A t) = true := List.any_eq_true.mpr ⟨_, m t, by simp⟩
    rw [h2] at h1
    exact (by simpa using h1 : z = cy A t).symm
  exact h (by rw [q x, q y])
def S_lturn (g : List PV → R PV) : Prop := ∀ W : List Ph, GS W → W.length ≤ 60 → wh W ≤ 1000 → ∃ r, IsLeast (shortP W) r ∧ g [encPs W] = .ok (encPs r)
theorem sp_lturn (h128 : S_ticks (F 128)) (h51 : S_leastL (F 51)) (h94 : S_runs (F 94)) (h76 : S_coloured (F 76)) : S_lturn fun us => outR (b__law_turn F (startE 5 us)) := by
  intro W g l60 hw
  have e1 := h128 W g.g.pos (by omega)
  have e2 := h51 W g.g.pos (good_iff.mpr g.g).toChain.oks hw
  obtain ⟨gs, _, lS⟩ := short_gs g
  have lsW := short_le W
  have hlW : ((ticks W).length : Int) = wh W := ticks_len g.g.pos
  have hle : leastN (ticks W) ≤ (ticks W).length := (least_per (ticks_ne g.g.pos g.g.ne)).2.1
  have hrow : (ticks W).take (leastN (ticks W)) = ticks (shortP W) := by
    rw [short_runs g.g g.two, (runs_any _).2.2]
  have s1 : slP (encR (ticks W)) none (some (leastN (ticks W) : Int)) = some (encR (ticks (shortP W))) := by rw [slP_toR, hrow]
  generalize hSS : shortP W = S at *
  have hp := gs.g.pos
  have hA := ticks_ne hp gs.g.ne
  have lA : ((ticks S).length : Int) = wh S := ticks_len hp
  have two := ded_two hA (ends_cy gs.g gs.two)
  have two' : ¬ ((ded (ticks S)).length : Int) = 1 := by omega
  have hset : setOk (ticks S) = true := decide_eq_true (by show (ticks S).length + 1 < 4096; omega)
  have hds := lenSetP_l hset
  have rg : rg1 ((ticks S).length : Int) = .ok (rangeP 0 (ticks S).length) := rg1_nat (by omega)
  have tix : ∀ a, a < S.length → (ticks S).drop (wh (S.take a)).toNat ++ (ticks S).take (wh (S.take a)).toNat = ticks (turnL S a) := fun a ha => by
    have h0 := wh_nn (hp.take a)
    have h1 := wh_rest a hp ha
    have h2 := hp _ (ph_mem ha)
    rw [turn_ticks gs (Nat.le_of_lt ha), rot_map (by omega), Int.toNat_of_nonneg h0]
  have loop := forL_inv (t := tN 3) (s := b__law_turn_0 F) (enc := fun i : Nat => PV.int (i : Int)) (xs := List.range (ticks S).length)
    (fun i r => ∃ b x3 x4, r = [.fz (encPs W), .fz (encR (ticks S)), .fz b, x3, x4] ∧ ((b = .non ∧ i = 0) ∨ ∃ v, b = encPs v ∧ (∃ a, a < S.length ∧ v = turnL S a) ∧ ∀ a, a < S.length → wh (S.take a) < (i : Int) → ltL (code (turnL S a)) (code v) = false))
    (fun _ => False) (r0 := [.fz (encPs W), .fz (encR (ticks S)), .fz .non, .no, .no]) ⟨.non, _, _, rfl, .inl ⟨rfl, rfl⟩⟩ (fun i x r hx ⟨b, x3, x4, er, hb⟩ => by
      subst er
      obtain ⟨rfl, hx⟩ := range_at hx
      have f1 := ixR (A := ticks S) (t := (x : Int)) (by omega) (by omega)
      have f2 := ixR (A := ticks S) (t := (x : Int) - 1) (by omega) (by omega)
      by_cases c : cy (ticks S) (x : Int) = cy (ticks S) ((x : Int) - 1)
      · -- no change of colour
        have no : ∀ a, a < S.length → wh (S.take a) ≠ (x : Int) := fun a ha z => by
          have := beg_chg gs ha
          rw [z] at this
          exact this c.symm
        have hb' : ∃ v, b = encPs v ∧ (∃ a, a < S.length ∧ v = turnL S a) ∧ ∀ a, a < S.length → wh (S.take a) < (x : Int) → ltL (code (turnL S a)) (code v) = false := by
          rcases hb with ⟨rfl, z⟩ | h
          · exfalso
            subst z
            exact no 0 (by have := gs.two; omega) rfl
          · exact h
        obtain ⟨v, rfl, hv1, hv2⟩ := hb'
        refine ⟨_, rfl, .inr ⟨[.fz (encPs W), .fz (encR (ticks S)), .fz (encPs v), .fz (.int (x : Int)), x4], .inl ?_, _, _, _, rfl, .inr ⟨v, rfl, hv1, fun a ha h => hv2 a ha (by have := no a ha; omega)⟩⟩⟩
        have hds' : lenSetP (encR (ticks S)) = some (.int ((ded (ticks S)).length : Int)) := hds
        simp -implicitDefEqProofs [b__law_turn_0, f1, f2, c, eLenSet_S, hds', two']
      · -- a turn begins
        have hm := change_beg hp gs.g.ne (Ne.symm c)
        rw [Int.emod_eq_of_lt (by omega) (by omega)] at hm
        unfold begs at hm
        obtain ⟨a, ha, ea⟩ := List.mem_map.mp hm
        have ha : a < S.length := by simpa using ha
        have ex : x = (wh (S.take a)).toNat := by omega
        have t1 := tix a ha
        rw [← ex] at t1
        have sl1 := slP_fromR (ticks S) x
        have sl2 := slP_toR (ticks S) x
        have ad : addP (encR ((ticks S).drop x)) (encR ((ticks S).take x)) = some (encR (ticks (turnL S a))) := by
          rw [← t1]
          exact addP_R (by rw [List.length_drop, List.length_take]; omega)
        have hlen : (ticks (turnL S a)).length ≤ 1000 := by rw [← t1]; simp; omega
        have rn := h94 (ticks (turnL S a)) (by omega)
        rw [runs_ticks (turn_adj gs a) (turn_pos gs a)] at rn
        have lt1 : (turnL S a).length ≤ 1000 := by unfold turnL; simp; omega
        have o1 := h76 (turnL S a) (gs.col a) lt1
        have uniq : ∀ a', a' < S.length → wh (S.take a') < ((x + 1 : Nat) : Int) → a' = a ∨ wh (S.take a') < (x : Int) := fun a' ha' h => by
          rcases Nat.lt_trichotomy a' a with z | z | z
          · right
            have := wh_mono hp z (Nat.le_of_lt ha)
            omega
          · exact .inl z
          · have := wh_mono hp z (Nat.le_of_lt ha')
            omega
        rcases hb with ⟨rfl, z⟩ | ⟨v, rfl, hv1, hv2⟩
        · refine ⟨_, rfl, .inr ⟨[.fz (encPs W), .fz (encR (ticks S)), .fz (encPs (turnL S a)), .fz (.int (x : Int)), .fz (encPs (turnL S a))], .inl ?_, _, _, _, rfl, .inr ⟨turnL S a, rfl, ⟨a, ha, rfl⟩, fun a' ha' h => ?_⟩⟩⟩
          · simp -implicitDefEqProofs [b__law_turn_0, f1, f2, c, sl1, sl2, ad, rn]
          · rcases uniq a' ha' h with z' | z'
            · rw [z']; exact ltL_irr _
            · have := wh_nn (hp.take a')
              omega
        · obtain ⟨b0, hb0, rfl⟩ := hv1
          have lt2 : (turnL S b0).length ≤ 1000 := by unfold turnL; simp; omega
          have o2 := h76 (turnL S b0) (gs.col b0) lt2
          have cmpD := ltD_cd (code (turnL S a)) (code (turnL S b0))
          have isn : isP (encPs (turnL S b0)) .non = some (.bl false) := rfl
          cases hlt : ltL (code (turnL S a)) (code (turnL S b0)) with
          | true =>
            rw [hlt] at cmpD
            refine ⟨_, rfl, .inr ⟨[.fz (encPs W), .fz (encR (ticks S)), .fz (encPs (turnL S a)), .fz (.int (x : Int)), .fz (encPs (turnL S a))], .inl ?_, _, _, _, rfl, .inr ⟨turnL S a, rfl, ⟨a, ha, rfl⟩, fun a' ha' h => ?_⟩⟩⟩
            · simp -implicitDefEqProofs [b__law_turn_0, f1, f2, c, sl1, sl2, ad, rn, o1, o2, cmpD, isn]
            · rcases uniq a' ha' h with z' | z'
              · rw [z']; exact ltL_irr _
              · cases e : ltL (code (turnL S a')) (code (turnL S a)) with
                | false => rfl
                | true =>
                  have := ltL_trans e hlt
                  rw [hv2 a' ha' z'] at this
                  cases this
          | false =>
            rw [hlt] at cmpD
            refine ⟨_, rfl, .inr ⟨[.fz (encPs W), .fz (encR (ticks S)), .fz (encPs (turnL S b0)), .fz (.int (x : Int)), .fz (encPs (turnL S a))], .inl ?_, _, _, _, rfl, .inr ⟨turnL S b0, rfl, ⟨b0, hb0, rfl⟩, fun a' ha' h => ?_⟩⟩⟩
            · simp -implicitDefEqProofs [b__law_turn_0, f1, f2, c, sl1, sl2, ad, rn, o1, o2, cmpD, isn]
            · rcases uniq a' ha' h with z' | z'
              · rw [z']; exact hlt
              · exact hv2 a' ha' z')
  rw [← rangeP_map] at loop
  rcases loop with ⟨v, _, hf⟩ | ⟨r', e, b, x3, x4, er, hb⟩
  · exact hf.elim
  · subst er
    rw [List.length_range] at hb
    rcases hb with ⟨_, z⟩ | ⟨v, rfl, hv1, hv2⟩
    · exact absurd (List.eq_nil_of_length_eq_zero z) hA
    · refine ⟨v, ⟨hv1, fun a ha => hv2 a ha ?_⟩, ?_⟩
      · have h1 := wh_rest a hp ha
        have h2 := hp _ (ph_mem ha)
        omega
      · simp -implicitDefEqProofs [b__law_turn, e1, e2, s1, lenP_R, rg, e]
end PH
namespace L03
open PySem PySem.Spec PyProof.Rows L2 VL PF
/-! the plain functions of this law alone -/
noncomputable def tabL (F : Nat → List PV → R PV) : List (Nat × (List PV → R PV)) := [(330, fun us => outR (b_gcd_of F (startE 2 us))),
  (371, fun us => outR (b_is_phase_v1 F (startE 1 us))),
  (312, fun us => outR (b_first_fault F (startE 3 us))),
  (337, fun us => outR (b_has_one_end F (startE 1 us))),
  (237, fun us => outR (b_check_loose F (startE 3 us))),
  (650, fun us => outR (b_whole_time F (startE 3 us))),
  (502, fun us => outR (b_place_at_v1 F (startE 4 us))),
  (563, fun us => outR (b_shortest F (startE 3 us))),
  (384, fun us => outR (b_joined F (startE 1 us))),
  (539, fun us => outR (b_same_time F (startE 11 us))),
  (538, fun us => outR (b_same_shown F (startE 2 us))),
  (217, fun us => outR (b_changes_of F (startE 5 us))),
  (634, fun us => outR (b_turn_between F (startE 10 us))),
  (540, fun us => outR (b_same_turned F (startE 2 us))),
  (637, fun us => outR (b_turns_of F (startE 2 us))),
  (271, fun us => outR (b_coloured F (startE 3 us))),
  (436, fun us => outR (b_least_of_turns F (startE 6 us))),
  (439, fun us => outR (b_least_turn F (startE 1 us))),
  (13, fun us => outR (b__law_cell F (startE 2 us))),
  (22, fun us => outR (b__law_draw F (startE 7 us))),
  (167, fun us => outR (b__law_whole F (startE 1 us))),
  (80, fun us => outR (b__law_phases F (startE 11 us))),
  (128, fun us => outR (b__law_ticks F (startE 3 us))),
  (94, fun us => outR (b__law_runs F (startE 3 us))),
  (51, fun us => outR (b__law_least F (startE 3 us))),
  (76, fun us => outR (b__law_order F (startE 2 us))),
  (103, fun us => outR (b__law_shift F (startE 7 us))),
  (162, fun us => outR (b__law_turn F (startE 5 us))),
  (411, fun us => outR (b_law_v13 F (startE 8 us)))]
noncomputable def step (F : Nat → List PV → R PV) : Nat → List PV → R PV := look (tabL F)
noncomputable def FT : Nat → Nat → List PV → R PV
  | 0 => fun _ _ => .stuck
  | d + 1 => step (FT d)
/-! the text -/
def topS (i : Nat) : Stmt := PySem.Challenge.pw_lightbook_k03_characters_are_compared.main.body.getD i (.Pass ⟨0, 0, 0, 0⟩)
theorem sc_0 : FnScope ["a", "b"] ["a", "b"] (defScope (topS 4)) := ⟨rfl, rfl, rfl, by decide +kernel, rfl, by decide +kernel, by decide +kernel⟩
theorem sc_1 : FnScope ["phase"] ["phase"] (defScope (topS 9)) := ⟨rfl, rfl, rfl, by decide +kernel, rfl, by decide +kernel, by decide +kernel⟩
theorem sc_2 : FnScope ["phases", "most", "at"] ["phases", "most"] (defScope (topS 10)) := ⟨rfl, rfl, rfl, by decide +kernel, rfl, by decide +kernel, by decide +kernel⟩
theorem sc_3 : FnScope ["phases"] ["phases"] (defScope (topS 11)) := ⟨rfl, rfl, rfl, by decide +kernel, rfl, by decide +kernel, by decide +kernel⟩
theorem sc_4 : FnScope ["phases", "is_longer", "fault"] ["phases"] (defScope (topS 12)) := ⟨rfl, rfl, rfl, by decide +kernel, rfl, by decide +kernel, by decide +kernel⟩
theorem sc_5 : FnScope ["phases", "_", "time"] ["phases"] (defScope (topS 13)) := ⟨rfl, rfl, rfl, by decide +kernel, rfl, by decide +kernel, by decide +kernel⟩
theorem sc_6 : FnScope ["phases", "time", "rest", "at"] ["phases", "time"] (defScope (topS 14)) := ⟨rfl, rfl, rfl, by decide +kernel, rfl, by decide +kernel, by decide +kernel⟩
theorem sc_7 : FnScope ["phases", "size", "count"] ["phases"] (defScope (topS 15)) := ⟨rfl, rfl, rfl, by decide +kernel, rfl, by decide +kernel, by decide +kernel⟩
theorem sc_8 : FnScope ["phases"] ["phases"] (defScope (topS 16)) := ⟨rfl, rfl, rfl, by decide +kernel, rfl, by decide +kernel, by decide +kernel⟩
theorem sc_9 : FnScope ["first", "start", "second", "other", "limit", "at", "gone", "there", "past", "time", "step"] ["first", "start", "second", "other"] (defScope (topS 17)) := ⟨rfl, rfl, rfl, by decide +kernel, rfl, by decide +kernel, by decide +kernel⟩
theorem sc_10 : FnScope ["first", "second"] ["first", "second"] (defScope (topS 18)) := ⟨rfl, rfl, rfl, by decide +kernel, rfl, by decide +kernel, by decide +kernel⟩
theorem sc_11 : FnScope ["phases", "times", "time", "_", "whole"] ["phases"] (defScope (topS 19)) := ⟨rfl, rfl, rfl, by decide +kernel, rfl, by decide +kernel, by decide +kernel⟩
theorem sc_12 : FnScope ["first", "second", "one", "other", "begin", "shift", "whole", "starts", "start", "time"] ["first", "second"] (defScope (topS 20)) := ⟨rfl, rfl, rfl, by decide +kernel, rfl, by decide +kernel, by decide +kernel⟩
theorem sc_13 : FnScope ["first", "second"] ["first", "second"] (defScope (topS 21)) := ⟨rfl, rfl, rfl, by decide +kernel, rfl, by decide +kernel, by decide +kernel⟩
theorem sc_14 : FnScope ["phases", "at"] ["phases"] (defScope (topS 22)) := ⟨rfl, rfl, rfl, by decide +kernel, rfl, by decide +kernel, by decide +kernel⟩
theorem sc_15 : FnScope ["phases", "colour", "time"] ["phases"] (defScope (topS 23)) := ⟨rfl, rfl, rfl, by decide +kernel, rfl, by decide +kernel, by decide +kernel⟩
theorem sc_16 : FnScope ["phases", "told", "least", "colour", "time", "turn"] ["phases"] (defScope (topS 24)) := ⟨rfl, rfl, rfl, by decide +kernel, rfl, by decide +kernel, by decide +kernel⟩
theorem sc_17 : FnScope ["phases"] ["phases"] (defScope (topS 25)) := ⟨rfl, rfl, rfl, by decide +kernel, rfl, by decide +kernel, by decide +kernel⟩
theorem sc_18 : FnScope ["script", "k"] ["script", "k"] (defScope (topS 27)) := ⟨rfl, rfl, rfl, by decide +kernel, rfl, by decide +kernel, by decide +kernel⟩
theorem sc_19 : FnScope ["cell", "limits", "row", "rest", "great", "k", "mixed"] ["cell", "limits"] (defScope (topS 28)) := ⟨rfl, rfl, rfl, by decide +kernel, rfl, by decide +kernel, by decide +kernel⟩
theorem sc_20 : FnScope ["x"] ["x"] (defScope (topS 29)) := ⟨rfl, rfl, rfl, by decide +kernel, rfl, by decide +kernel, by decide +kernel⟩
theorem sc_21 : FnScope ["cell", "most", "longest", "d", "count", "colours", "phases", "k", "e", "colour", "others"] ["cell", "most", "longest"] (defScope (topS 30)) := ⟨rfl, rfl, rfl, by decide +kernel, rfl, by decide +kernel, by decide +kernel⟩
theorem sc_22 : FnScope ["phases", "row", "phase"] ["phases"] (defScope (topS 31)) := ⟨rfl, rfl, rfl, by decide +kernel, rfl, by decide +kernel, by decide +kernel⟩
theorem sc_23 : FnScope ["row", "phases", "colour"] ["row"] (defScope (topS 32)) := ⟨rfl, rfl, rfl, by decide +kernel, rfl, by decide +kernel, by decide +kernel⟩
theorem sc_24 : FnScope ["phases", "row", "size"] ["phases"] (defScope (topS 33)) := ⟨rfl, rfl, rfl, by decide +kernel, rfl, by decide +kernel, by decide +kernel⟩
theorem sc_25 : FnScope ["phases", "phase"] ["phases"] (defScope (topS 34)) := ⟨rfl, rfl, rfl, by decide +kernel, rfl, by decide +kernel, by decide +kernel⟩
theorem sc_26 : FnScope ["first", "second", "one", "two", "shift", "same", "k"] ["first", "second"] (defScope (topS 35)) := ⟨rfl, rfl, rfl, by decide +kernel, rfl, by decide +kernel, by decide +kernel⟩
theorem sc_27 : FnScope ["phases", "row", "best", "k", "turned"] ["phases"] (defScope (topS 36)) := ⟨rfl, rfl, rfl, by decide +kernel, rfl, by decide +kernel, by decide +kernel⟩
theorem sc_28 : FnScope ["script", "first", "second", "row", "at", "shift", "told", "same"] ["script"] (defScope (topS 37)) := ⟨rfl, rfl, rfl, by decide +kernel, rfl, by decide +kernel, by decide +kernel⟩
structure Tx (P : Program) (w : World) (K : PySem.W.Frag) (mg : Str → Option Value) (base : Heap) (cl : Nat → Addr) : Prop where
  z_abs : mg "abs" = none
  z_bool : mg "bool" = none
  z_int : mg "int" = none
  z_isinstance : mg "isinstance" = none
  z_len : mg "len" = none
  z_list : mg "list" = none
  z_min : mg "min" = none
  z_range : mg "range" = none
  z_set : mg "set" = none
  z_sorted : mg "sorted" = none
  z_sum : mg "sum" = none
  z_tuple : mg "tuple" = none
  c_COLOURS : GlobV K cl mg "COLOURS" c_COLOURS
  c_MOST_PHASES : GlobV K cl mg "MOST_PHASES" c_MOST_PHASES
  c_MOST_TIME : GlobV K cl mg "MOST_TIME" c_MOST_TIME
  ct_COLOURS : GlobT K mg "COLOURS" ct_COLOURS
  x_BadPhase : ExcAt P w K mg base cl 1 "BadPhase" 4 1 sp_BadPhase
structure TxD (P : Program) (w : World) (K : PySem.W.Frag) (mg : Str → Option Value) (base : Heap) (cl : Nat → Addr) (d : Nat) : Prop where
  d_gcd_of : DefAt P w K mg base cl (d + 2) "gcd_of" 2 (FT d 330)
  d_is_phase : DefAt P w K mg base cl (d + 2) "is_phase" 1 (FT d 371)
  d_first_fault : DefAt P w K mg base cl (d + 2) "first_fault" 2 (FT d 312)
  d_has_one_end : DefAt P w K mg base cl (d + 2) "has_one_end" 1 (FT d 337)
  d_check_loose : DefAt P w K mg base cl (d + 2) "check_loose" 1 (FT d 237)
  d_whole_time : DefAt P w K mg base cl (d + 2) "whole_time" 1 (FT d 650)
  d_place_at : DefAt P w K mg base cl (d + 2) "place_at" 2 (FT d 502)
  d_shortest : DefAt P w K mg base cl (d + 2) "shortest" 1 (FT d 563)
  d_joined : DefAt P w K mg base cl (d + 2) "joined" 1 (FT d 384)
  d_same_time : DefAt P w K mg base cl (d + 2) "same_time" 4 (FT d 539)
  d_same_shown : DefAt P w K mg base cl (d + 2) "same_shown" 2 (FT d 538)
  d_changes_of : DefAt P w K mg base cl (d + 2) "changes_of" 1 (FT d 217)
  d_turn_between : DefAt P w K mg base cl (d + 2) "turn_between" 2 (FT d 634)
  d_same_turned : DefAt P w K mg base cl (d + 2) "same_turned" 2 (FT d 540)
  d_turns_of : DefAt P w K mg base cl (d + 2) "turns_of" 1 (FT d 637)
  d_coloured : DefAt P w K mg base cl (d + 2) "coloured" 1 (FT d 271)
  d_least_of_turns : DefAt P w K mg base cl (d + 2) "least_of_turns" 1 (FT d 436)
  d_least_turn : DefAt P w K mg base cl (d + 2) "least_turn" 1 (FT d 439)
  d__law_cell : DefAt P w K mg base cl (d + 2) "_law_cell" 2 (FT d 13)
  d__law_draw : DefAt P w K mg base cl (d + 2) "_law_draw" 2 (FT d 22)
  d__law_whole : DefAt P w K mg base cl (d + 2) "_law_whole" 1 (FT d 167)
  d__law_phases : DefAt P w K mg base cl (d + 2) "_law_phases" 3 (FT d 80)
  d__law_ticks : DefAt P w K mg base cl (d + 2) "_law_ticks" 1 (FT d 128)
  d__law_runs : DefAt P w K mg base cl (d + 2) "_law_runs" 1 (FT d 94)
  d__law_least : DefAt P w K mg base cl (d + 2) "_law_least" 1 (FT d 51)
  d__law_order : DefAt P w K mg base cl (d + 2) "_law_order" 1 (FT d 76)
  d__law_shift : DefAt P w K mg base cl (d + 2) "_law_shift" 2 (FT d 103)
  d__law_turn : DefAt P w K mg base cl (d + 2) "_law_turn" 1 (FT d 162)
  d_law : DefAt P w K mg base cl (d + 2) "law" 1 (FT d 411)
structure Txt (K : PySem.W.Frag) (mg : Str → Option Value) : Prop where
  g_gcd_of : ∃ f fd, Fun K "gcd_of" "gcd_of" (topS 4) f fd ∧ mg "gcd_of" = some (.ref f)
  g_is_phase : ∃ f fd, Fun K "is_phase" "is_phase" (topS 9) f fd ∧ mg "is_phase" = some (.ref f)
  g_first_fault : ∃ f fd, Fun K "first_fault" "first_fault" (topS 10) f fd ∧ mg "first_fault" = some (.ref f)
  g_has_one_end : ∃ f fd, Fun K "has_one_end" "has_one_end" (topS 11) f fd ∧ mg "has_one_end" = some (.ref f)
  g_check_loose : ∃ f fd, Fun K "check_loose" "check_loose" (topS 12) f fd ∧ mg "check_loose" = some (.ref f)
  g_whole_time : ∃ f fd, Fun K "whole_time" "whole_time" (topS 13) f fd ∧ mg "whole_time" = some (.ref f)
  g_place_at : ∃ f fd, Fun K "place_at" "place_at" (topS 14) f fd ∧ mg "place_at" = some (.ref f)
  g_shortest : ∃ f fd, Fun K "shortest" "shortest" (topS 15) f fd ∧ mg "shortest" = some (.ref f)
  g_joined : ∃ f fd, Fun K "joined" "joined" (topS 16) f fd ∧ mg "joined" = some (.ref f)
  g_same_time : ∃ f fd, Fun K "same_time" "same_time" (topS 17) f fd ∧ mg "same_time" = some (.ref f)
  g_same_shown : ∃ f fd, Fun K "same_shown" "same_shown" (topS 18) f fd ∧ mg "same_shown" = some (.ref f)
  g_changes_of : ∃ f fd, Fun K "changes_of" "changes_of" (topS 19) f fd ∧ mg "changes_of" = some (.ref f)
  g_turn_between : ∃ f fd, Fun K "turn_between" "turn_between" (topS 20) f fd ∧ mg "turn_between" = some (.ref f)
  g_same_turned : ∃ f fd, Fun K "same_turned" "same_turned" (topS 21) f fd ∧ mg "same_turned" = some (.ref f)
  g_turns_of : ∃ f fd, Fun K "turns_of" "turns_of" (topS 22) f fd ∧ mg "turns_of" = some (.ref f)
  g_coloured : ∃ f fd, Fun K "coloured" "coloured" (topS 23) f fd ∧ mg "coloured" = some (.ref f)
  g_least_of_turns : ∃ f fd, Fun K "least_of_turns" "least_of_turns" (topS 24) f fd ∧ mg "least_of_turns" = some (.ref f)
  g_least_turn : ∃ f fd, Fun K "least_turn" "least_turn" (topS 25) f fd ∧ mg "least_turn" = some (.ref f)
  g__law_cell : ∃ f fd, Fun K "_law_cell" "_law_cell" (topS 27) f fd ∧ mg "_law_cell" = some (.ref f)
  g__law_draw : ∃ f fd, Fun K "_law_draw" "_law_draw" (topS 28) f fd ∧ mg "_law_draw" = some (.ref f)
  g__law_whole : ∃ f fd, Fun K "_law_whole" "_law_whole" (topS 29) f fd ∧ mg "_law_whole" = some (.ref f)
  g__law_phases : ∃ f fd, Fun K "_law_phases" "_law_phases" (topS 30) f fd ∧ mg "_law_phases" = some (.ref f)
  g__law_ticks : ∃ f fd, Fun K "_law_ticks" "_law_ticks" (topS 31) f fd ∧ mg "_law_ticks" = some (.ref f)
  g__law_runs : ∃ f fd, Fun K "_law_runs" "_law_runs" (topS 32) f fd ∧ mg "_law_runs" = some (.ref f)
  g__law_least : ∃ f fd, Fun K "_law_least" "_law_least" (topS 33) f fd ∧ mg "_law_least" = some (.ref f)
  g__law_order : ∃ f fd, Fun K "_law_order" "_law_order" (topS 34) f fd ∧ mg "_law_order" = some (.ref f)
  g__law_shift : ∃ f fd, Fun K "_law_shift" "_law_shift" (topS 35) f fd ∧ mg "_law_shift" = some (.ref f)
  g__law_turn : ∃ f fd, Fun K "_law_turn" "_law_turn" (topS 36) f fd ∧ mg "_law_turn" = some (.ref f)
  g_law : ∃ f fd, Fun K "law" "law" (topS 37) f fd ∧ mg "law" = some (.ref f)
section
variable {P : Program} {w : World} {K : PySem.W.Frag} {mg : Str → Option Value} {base : Heap} {cl : Nat → Addr} {d : Nat}
theorem bd_0 {f : Addr} {fd : FuncData} (F : Fun K "gcd_of" "gcd_of" (topS 4) f fd) : Binds K fd ["a", "b"] [] := F.binds fun _ _ _ _ _ _ us hl => match us, hl with | [_, _], _ => rfl
theorem bd_1 {f : Addr} {fd : FuncData} (F : Fun K "is_phase" "is_phase" (topS 9) f fd) : Binds K fd ["phase"] [] := F.binds fun _ _ _ _ _ _ us hl => match us, hl with | [_], _ => rfl
theorem bd_2 {f : Addr} {fd : FuncData} (F : Fun K "first_fault" "first_fault" (topS 10) f fd) : Binds K fd ["phases", "most"] [] := F.binds fun _ _ _ _ _ _ us hl => match us, hl with | [_, _], _ => rfl
theorem bd_3 {f : Addr} {fd : FuncData} (F : Fun K "has_one_end" "has_one_end" (topS 11) f fd) : Binds K fd ["phases"] [] := F.binds fun _ _ _ _ _ _ us hl => match us, hl with | [_], _ => rfl
theorem bd_4 {f : Addr} {fd : FuncData} (F : Fun K "check_loose" "check_loose" (topS 12) f fd) : Binds K fd ["phases"] [] := F.binds fun _ _ _ _ _ _ us hl => match us, hl with | [_], _ => rfl
theorem bd_5 {f : Addr} {fd : FuncData} (F : Fun K "whole_time" "whole_time" (topS 13) f fd) : Binds K fd ["phases"] [] := F.binds fun _ _ _ _ _ _ us hl => match us, hl with | [_], _ => rfl
theorem bd_6 {f : Addr} {fd : FuncData} (F : Fun K "place_at" "place_at" (topS 14) f fd) : Binds K fd ["phases", "time"] [] := F.binds fun _ _ _ _ _ _ us hl => match us, hl with | [_, _], _ => rfl
theorem bd_7 {f : Addr} {fd : FuncData} (F : Fun K "shortest" "shortest" (topS 15) f fd) : Binds K fd ["phases"] [] := F.binds fun _ _ _ _ _ _ us hl => match us, hl with | [_], _ => rfl
theorem bd_8 {f : Addr} {fd : FuncData} (F : Fun K "joined" "joined" (topS 16) f fd) : Binds K fd ["phases"] [] := F.binds fun _ _ _ _ _ _ us hl => match us, hl with | [_], _ => rfl
theorem bd_9 {f : Addr} {fd : FuncData} (F : Fun K "same_time" "same_time" (topS 17) f fd) : Binds K fd ["first", "start", "second", "other"] [] := F.binds fun _ _ _ _ _ _ us hl => match us, hl with | [_, _, _, _], _ => rfl
theorem bd_10 {f : Addr} {fd : FuncData} (F : Fun K "same_shown" "same_shown" (topS 18) f fd) : Binds K fd ["first", "second"] [] := F.binds fun _ _ _ _ _ _ us hl => match us, hl with | [_, _], _ => rfl
theorem bd_11 {f : Addr} {fd : FuncData} (F : Fun K "changes_of" "changes_of" (topS 19) f fd) : Binds K fd ["phases"] [] := F.binds fun _ _ _ _ _ _ us hl => match us, hl with | [_], _ => rfl
theorem bd_12 {f : Addr} {fd : FuncData} (F : Fun K "turn_between" "turn_between" (topS 20) f fd) : Binds K fd ["first", "second"] [] := F.binds fun _ _ _ _ _ _ us hl => match us, hl with | [_, _], _ => rfl
theorem bd_13 {f : Addr} {fd : FuncData} (F : Fun K "same_turned" "same_turned" (topS 21) f fd) : Binds K fd ["first", "second"] [] := F.binds fun _ _ _ _ _ _ us hl => match us, hl with | [_, _], _ => rfl
theorem bd_14 {f : Addr} {fd : FuncData} (F : Fun K "turns_of" "turns_of" (topS 22) f fd) : Binds K fd ["phases"] [] := F.binds fun _ _ _ _ _ _ us hl => match us, hl with | [_], _ => rfl
theorem bd_15 {f : Addr} {fd : FuncData} (F : Fun K "coloured" "coloured" (topS 23) f fd) : Binds K fd ["phases"] [] := F.binds fun _ _ _ _ _ _ us hl => match us, hl with | [_], _ => rfl
theorem bd_16 {f : Addr} {fd : FuncData} (F : Fun K "least_of_turns" "least_of_turns" (topS 24) f fd) : Binds K fd ["phases"] [] := F.binds fun _ _ _ _ _ _ us hl => match us, hl with | [_], _ => rfl
theorem bd_17 {f : Addr} {fd : FuncData} (F : Fun K "least_turn" "least_turn" (topS 25) f fd) : Binds K fd ["phases"] [] := F.binds fun _ _ _ _ _ _ us hl => match us, hl with | [_], _ => rfl
theorem bd_18 {f : Addr} {fd : FuncData} (F : Fun K "_law_cell" "_law_cell" (topS 27) f fd) : Binds K fd ["script", "k"] [] := F.binds fun _ _ _ _ _ _ us hl => match us, hl with | [_, _], _ => rfl
theorem bd_19 {f : Addr} {fd : FuncData} (F : Fun K "_law_draw" "_law_draw" (topS 28) f fd) : Binds K fd ["cell", "limits"] [] := F.binds fun _ _ _ _ _ _ us hl => match us, hl with | [_, _], _ => rfl
theorem bd_20 {f : Addr} {fd : FuncData} (F : Fun K "_law_whole" "_law_whole" (topS 29) f fd) : Binds K fd ["x"] [] := F.binds fun _ _ _ _ _ _ us hl => match us, hl with | [_], _ => rfl
theorem bd_21 {f : Addr} {fd : FuncData} (F : Fun K "_law_phases" "_law_phases" (topS 30) f fd) : Binds K fd ["cell", "most", "longest"] [] := F.binds fun _ _ _ _ _ _ us hl => match us, hl with | [_, _, _], _ => rfl
theorem bd_22 {f : Addr} {fd : FuncData} (F : Fun K "_law_ticks" "_law_ticks" (topS 31) f fd) : Binds K fd ["phases"] [] := F.binds fun _ _ _ _ _ _ us hl => match us, hl with | [_], _ => rfl
theorem bd_23 {f : Addr} {fd : FuncData} (F : Fun K "_law_runs" "_law_runs" (topS 32) f fd) : Binds K fd ["row"] [] := F.binds fun _ _ _ _ _ _ us hl => match us, hl with | [_], _ => rfl
theorem bd_24 {f : Addr} {fd : FuncData} (F : Fun K "_law_least" "_law_least" (topS 33) f fd) : Binds K fd ["phases"] [] := F.binds fun _ _ _ _ _ _ us hl => match us, hl with | [_], _ => rfl
theorem bd_25 {f : Addr} {fd : FuncData} (F : Fun K "_law_order" "_law_order" (topS 34) f fd) : Binds K fd ["phases"] [] := F.binds fun _ _ _ _ _ _ us hl => match us, hl with | [_], _ => rfl
theorem bd_26 {f : Addr} {fd : FuncData} (F : Fun K "_law_shift" "_law_shift" (topS 35) f fd) : Binds K fd ["first", "second"] [] := F.binds fun _ _ _ _ _ _ us hl => match us, hl with | [_, _], _ => rfl
theorem bd_27 {f : Addr} {fd : FuncData} (F : Fun K "_law_turn" "_law_turn" (topS 36) f fd) : Binds K fd ["phases"] [] := F.binds fun _ _ _ _ _ _ us hl => match us, hl with | [_], _ => rfl
theorem bd_28 {f : Addr} {fd : FuncData} (F : Fun K "law" "law" (topS 37) f fd) : Binds K fd ["script"] [] := F.binds fun _ _ _ _ _ _ us hl => match us, hl with | [_], _ => rfl
theorem ok_0 (T : Tx P w K mg base cl) (TD : TxD P w K mg base cl d) {f : Addr} {cdv : Value} {A : Around} {outer : List PySem.Env} {s : Shared} {H : Hp} {E : XK} {He : Hp} (hr : Room (d + 2) (A.deeper (envOfC "gcd_of" (defScope (topS 4)) s.heap.objs.size f cdv))) :
    PVs (cxOf (L2.CX P w) P w K mg base ["a", "b"] "gcd_of" (defScope (topS 4)) f cdv A outer s H E) cl (fun c d _ H => E c d H) He H (defBody (topS 4)) (b_gcd_of (FT d)) := by
  have tk : Takes (cxOf (L2.CX P w) P w K mg base ["a", "b"] "gcd_of" (defScope (topS 4)) f cdv A outer s H E) (fun c d _ H => E c d H) := takes_of rfl rfl rfl rfl
  have hp := passes_of (X := cxOf (L2.CX P w) P w K mg base ["a", "b"] "gcd_of" (defScope (topS 4)) f cdv A outer s H E) rfl
  exact vs_cons (vs_while hp (vt_cmp op_gt ov_gt (ve_var 1) (ve_int)) (vs_one (vs_par (i := 0) (j := 1) rfl sc_0.nd (va_cons (ve_var 1) (va_cons (ve_bin op_mod ov_mod (ve_var 0) (ve_var 1)) (va_nil)))))) (vs_one (vs_ret (ve_var 0)))
theorem ok_1 (T : Tx P w K mg base cl) (TD : TxD P w K mg base cl d) {f : Addr} {cdv : Value} {A : Around} {outer : List PySem.Env} {s : Shared} {H : Hp} {E : XK} {He : Hp} (hr : Room (d + 2) (A.deeper (envOfC "is_phase" (defScope (topS 9)) s.heap.objs.size f cdv))) :
    PVs (cxOf (L2.CX P w) P w K mg base ["phase"] "is_phase" (defScope (topS 9)) f cdv A outer s H E) cl (fun c d _ H => E c d H) He H (defBody (topS 9)) (b_is_phase_v1 (FT d)) := by
  have tk : Takes (cxOf (L2.CX P w) P w K mg base ["phase"] "is_phase" (defScope (topS 9)) f cdv A outer s H E) (fun c d _ H => E c d H) := takes_of rfl rfl rfl rfl
  exact vs_cons (vs_if (PW.pt (vw_or (vt_not (vt_tru (ve_callB call_isi cv_isa T.z_isinstance boot_isinstance (va_cons (ve_var 0) (va_cons ((ve_ty T.z_tuple boot_tuple)) (va_nil)))))) (vw_or (vt_cmp (or_ne (room64 hr)) ov_ne (ve_callB call_len cv_len T.z_len boot_len (va_cons (ve_var 0) (va_nil))) (ve_int)) (vw_or1 (vt_cmp (or_nin (room65 hr)) ov_nin (ve_ix (ve_var 0) (ve_int)) (ve_glob T.c_COLOURS)))))) (vs_one (vs_ret (ve_bl))) (vs_nil)) (vs_one (vs_ret (ve_and (ve_callB call_isi cv_isa T.z_isinstance boot_isinstance (va_cons (ve_ix (ve_var 0) (ve_int)) (va_cons ((ve_ty T.z_int boot_int)) (va_nil)))) (ve_one (ve_chain or_le or_le ov_le ov_le (ve_int) (ve_ix (ve_var 0) (ve_int)) (ve_glob T.c_MOST_TIME))))))
theorem ok_2 (T : Tx P w K mg base cl) (TD : TxD P w K mg base cl d) {f : Addr} {cdv : Value} {A : Around} {outer : List PySem.Env} {s : Shared} {H : Hp} {E : XK} {He : Hp} (hr : Room (d + 2) (A.deeper (envOfC "first_fault" (defScope (topS 10)) s.heap.objs.size f cdv))) :
    PVs (cxOf (L2.CX P w) P w K mg base ["phases", "most", "at"] "first_fault" (defScope (topS 10)) f cdv A outer s H E) cl (fun c d _ H => E c d H) He H (defBody (topS 10)) (b_first_fault (FT d)) := by
  have tk : Takes (cxOf (L2.CX P w) P w K mg base ["phases", "most", "at"] "first_fault" (defScope (topS 10)) f cdv A outer s H E) (fun c d _ H => E c d H) := takes_of rfl rfl rfl rfl
  have hp := passes_of (X := cxOf (L2.CX P w) P w K mg base ["phases", "most", "at"] "first_fault" (defScope (topS 10)) f cdv A outer s H E) rfl
  exact vs_cons (vs_if (vt_cmp (or_eq (room64 hr)) ov_eq (ve_callB call_len cv_len T.z_len boot_len (va_cons (ve_var 0) (va_nil))) (ve_int)) (vs_one (vs_ret (ve_int))) (vs_nil)) (vs_cons (vs_for hp rfl bears_wkA wkA_of (vi_r1 (ve_callB (cr_min2 rfl) cv_min T.z_min boot_min (va_cons (ve_callB call_len cv_len T.z_len boot_len (va_cons (ve_var 0) (va_nil))) (va_cons (ve_bin or_add ov_add (ve_var 1) (ve_int)) (va_nil)))) T.z_range) (pg_name (i := 2) sc_2.nd rfl (by first | exact Or.inl rfl | exact Or.inr rfl)) (tg_name 2) (vs_one (vs_if (PW.pt (vw_or (vt_cmp (or_eq (room64 hr)) ov_eq (ve_var 2) (ve_var 1)) (vw_or (vt_not (vt_tru (vc (TD.d_is_phase) hr tk (va_cons (ve_ix (ve_var 0) (ve_var 2)) (va_nil))))) (vw_or1 (PW.pt (vw_and (vt_cmp op_gt ov_gt (ve_var 2) (ve_int)) (vw_and1 (vt_cmp (or_eq (room64 hr)) ov_eq (ve_ix (ve_ix (ve_var 0) (ve_var 2)) (ve_int)) (ve_ix (ve_ix (ve_var 0) (ve_bin op_sub ov_sub (ve_var 2) (ve_int))) (ve_int)))))))))) (vs_one (vs_ret (ve_var 2))) (vs_nil)))) (vs_one (vs_ret (ve_non))))
theorem ok_3 (T : Tx P w K mg base cl) (TD : TxD P w K mg base cl d) {f : Addr} {cdv : Value} {A : Around} {outer : List PySem.Env} {s : Shared} {H : Hp} {E : XK} {He : Hp} (hr : Room (d + 2) (A.deeper (envOfC "has_one_end" (defScope (topS 11)) s.heap.objs.size f cdv))) :
    PVs (cxOf (L2.CX P w) P w K mg base ["phases"] "has_one_end" (defScope (topS 11)) f cdv A outer s H E) cl (fun c d _ H => E c d H) He H (defBody (topS 11)) (b_has_one_end (FT d)) := by
  have tk : Takes (cxOf (L2.CX P w) P w K mg base ["phases"] "has_one_end" (defScope (topS 11)) f cdv A outer s H E) (fun c d _ H => E c d H) := takes_of rfl rfl rfl rfl
  exact vs_one (vs_ret (ve_and (ve_cmp op_gt ov_gt (ve_callB call_len cv_len T.z_len boot_len (va_cons (ve_var 0) (va_nil))) (ve_int)) (ve_and (vc (TD.d_is_phase) hr tk (va_cons (ve_ix (ve_var 0) (ve_int)) (va_nil))) (ve_and (vc (TD.d_is_phase) hr tk (va_cons (ve_ix (ve_var 0) (ve_neg (ve_int))) (va_nil))) (ve_one (ve_cmp (or_eq (room64 hr)) ov_eq (ve_ix (ve_ix (ve_var 0) (ve_int)) (ve_int)) (ve_ix (ve_ix (ve_var 0) (ve_neg (ve_int))) (ve_int))))))))
theorem ok_4 (T : Tx P w K mg base cl) (TD : TxD P w K mg base cl d) {f : Addr} {cdv : Value} {A : Around} {outer : List PySem.Env} {s : Shared} {H : Hp} {E : XK} {He : Hp} (hr : Room (d + 2) (A.deeper (envOfC "check_loose" (defScope (topS 12)) s.heap.objs.size f cdv))) :
    PVs (cxOf (L2.CX P w) P w K mg base ["phases", "is_longer", "fault"] "check_loose" (defScope (topS 12)) f cdv A outer s H E) cl (fun c d _ H => E c d H) He H (defBody (topS 12)) (b_check_loose (FT d)) := by
  have tk : Takes (cxOf (L2.CX P w) P w K mg base ["phases", "is_longer", "fault"] "check_loose" (defScope (topS 12)) f cdv A outer s H E) (fun c d _ H => E c d H) := takes_of rfl rfl rfl rfl
  exact vs_cons (vs_set sc_4.nd (ve_and (ve_cmp (or_eq (room64 hr)) ov_eq (ve_callB call_len cv_len T.z_len boot_len (va_cons (ve_var 0) (va_nil))) (ve_bin or_add ov_add (ve_glob T.c_MOST_PHASES) (ve_int))) (ve_one (vc (TD.d_has_one_end) hr tk (va_cons (ve_var 0) (va_nil)))))) (vs_cons (vs_set sc_4.nd (vc (TD.d_first_fault) hr tk (va_cons (ve_var 0) (va_cons (ve_if (vt_tru (ve_var 1)) (ve_bin or_add ov_add (ve_glob T.c_MOST_PHASES) (ve_int)) (ve_glob T.c_MOST_PHASES)) (va_nil))))) (vs_one (vs_if (vt_cmp or_isnt ov_isnt (ve_var 2) (ve_non)) (vs_one (vr T.x_BadPhase (room2 hr) rfl tk (va_cons (ve_var 2) (va_nil)))) (vs_nil))))
theorem ok_5 (T : Tx P w K mg base cl) (TD : TxD P w K mg base cl d) {f : Addr} {cdv : Value} {A : Around} {outer : List PySem.Env} {s : Shared} {H : Hp} {E : XK} {He : Hp} (hr : Room (d + 2) (A.deeper (envOfC "whole_time" (defScope (topS 13)) s.heap.objs.size f cdv))) :
    PVs (cxOf (L2.CX P w) P w K mg base ["phases", "_", "time"] "whole_time" (defScope (topS 13)) f cdv A outer s H E) cl (fun c d _ H => E c d H) He H (defBody (topS 13)) (b_whole_time (FT d)) := by
  have tk : Takes (cxOf (L2.CX P w) P w K mg base ["phases", "_", "time"] "whole_time" (defScope (topS 13)) f cdv A outer s H E) (fun c d _ H => E c d H) := takes_of rfl rfl rfl rfl
  exact vs_one (vs_ret (ve_callB (cr_sum rfl) cv_sum T.z_sum boot_sum (va_cons (ve_ofO (vo_lc (own := [(("_" : Str), 1), (("time" : Str), 2)]) rfl sc_5.nd (vi_seq (ve_var 0)) wk_of (blk_of (by rfl)) (tg_tup (tgs_cons (tg_name 1) (tgs_cons (tg_name 2) (tgs_nil)))) (tin_t (tin_cons (mem_tn rfl) (tin_cons (mem_tn rfl) (tin_nil)))) (fun _ _ _ _ _ => pg_tup rfl (pgs_cons (pg_name (i := 1) sc_5.nd rfl (by first | exact Or.inl rfl | exact Or.inr rfl)) (pgs_cons (pg_name (i := 2) sc_5.nd rfl (by first | exact Or.inl rfl | exact Or.inr rfl)) (pgs_nil)))) (fun _ _ _ _ _ => vts_nil) (fun _ _ _ _ _ => ve_var 2))) (va_nil))))
theorem ok_6 (T : Tx P w K mg base cl) (TD : TxD P w K mg base cl d) {f : Addr} {cdv : Value} {A : Around} {outer : List PySem.Env} {s : Shared} {H : Hp} {E : XK} {He : Hp} (hr : Room (d + 2) (A.deeper (envOfC "place_at" (defScope (topS 14)) s.heap.objs.size f cdv))) :
    PVs (cxOf (L2.CX P w) P w K mg base ["phases", "time", "rest", "at"] "place_at" (defScope (topS 14)) f cdv A outer s H E) cl (fun c d _ H => E c d H) He H (defBody (topS 14)) (b_place_at_v1 (FT d)) := by
  have tk : Takes (cxOf (L2.CX P w) P w K mg base ["phases", "time", "rest", "at"] "place_at" (defScope (topS 14)) f cdv A outer s H E) (fun c d _ H => E c d H) := takes_of rfl rfl rfl rfl
  have hp := passes_of (X := cxOf (L2.CX P w) P w K mg base ["phases", "time", "rest", "at"] "place_at" (defScope (topS 14)) f cdv A outer s H E) rfl
  exact vs_cons (vs_set sc_6.nd (ve_bin op_mod ov_mod (ve_var 1) (vc (TD.d_whole_time) hr tk (va_cons (ve_var 0) (va_nil))))) (vs_cons (vs_set sc_6.nd (ve_int)) (vs_cons (vs_while hp (vt_cmp op_ge ov_ge (ve_var 2) (ve_ix (ve_ix (ve_var 0) (ve_var 3)) (ve_int))) (vs_cons (vs_aug iop_sub ov_sub sc_6.nd (ve_ix (ve_ix (ve_var 0) (ve_var 3)) (ve_int))) (vs_one (vs_aug iop_add ov_iadd sc_6.nd (ve_int))))) (vs_one (vs_ret (ve_tup (va_cons (ve_var 3) (va_cons (ve_var 2) (va_nil))))))))
theorem ok_7 (T : Tx P w K mg base cl) (TD : TxD P w K mg base cl d) {f : Addr} {cdv : Value} {A : Around} {outer : List PySem.Env} {s : Shared} {H : Hp} {E : XK} {He : Hp} (hr : Room (d + 2) (A.deeper (envOfC "shortest" (defScope (topS 15)) s.heap.objs.size f cdv))) :
    PVs (cxOf (L2.CX P w) P w K mg base ["phases", "size", "count"] "shortest" (defScope (topS 15)) f cdv A outer s H E) cl (fun c d _ H => E c d H) He H (defBody (topS 15)) (b_shortest (FT d)) := by
  have tk : Takes (cxOf (L2.CX P w) P w K mg base ["phases", "size", "count"] "shortest" (defScope (topS 15)) f cdv A outer s H E) (fun c d _ H => E c d H) := takes_of rfl rfl rfl rfl
  have hp := passes_of (X := cxOf (L2.CX P w) P w K mg base ["phases", "size", "count"] "shortest" (defScope (topS 15)) f cdv A outer s H E) rfl
  exact vs_cons (vs_set sc_7.nd (ve_callB call_len cv_len T.z_len boot_len (va_cons (ve_var 0) (va_nil)))) (vs_cons (vs_for hp rfl bears_wkA wkA_of (vi_r2 (ve_int) (ve_var 1) T.z_range) (pg_name (i := 2) sc_7.nd rfl (by first | exact Or.inl rfl | exact Or.inr rfl)) (tg_name 2) (vs_one (vs_if (PW.pt (vw_and (vt_cmp (or_eq (room64 hr)) ov_eq (ve_bin op_mod ov_mod (ve_var 1) (ve_var 2)) (ve_int)) (vw_and1 (vt_cmp (or_eq (room64 hr)) ov_eq (ve_bin or_mul ov_mul (ve_slice (ve_var 0) (vo_none) (vo_some (ve_var 2))) (ve_bin op_fdivS ov_div (ve_var 1) (ve_var 2))) (ve_var 0))))) (vs_one (vs_ret (ve_slice (ve_var 0) (vo_none) (vo_some (ve_var 2))))) (vs_nil)))) (vs_one (vs_ret (ve_callTy call_list_of cv_list T.z_list boot_list (va_cons (ve_var 0) (va_nil))))))
theorem ok_8 (T : Tx P w K mg base cl) (TD : TxD P w K mg base cl d) {f : Addr} {cdv : Value} {A : Around} {outer : List PySem.Env} {s : Shared} {H : Hp} {E : XK} {He : Hp} (hr : Room (d + 2) (A.deeper (envOfC "joined" (defScope (topS 16)) s.heap.objs.size f cdv))) :
    PVs (cxOf (L2.CX P w) P w K mg base ["phases"] "joined" (defScope (topS 16)) f cdv A outer s H E) cl (fun c d _ H => E c d H) He H (defBody (topS 16)) (b_joined (FT d)) := by
  have tk : Takes (cxOf (L2.CX P w) P w K mg base ["phases"] "joined" (defScope (topS 16)) f cdv A outer s H E) (fun c d _ H => E c d H) := takes_of rfl rfl rfl rfl
  exact vs_cons (vs_if (PW.pt (vw_and (vt_cmp op_gt ov_gt (ve_callB call_len cv_len T.z_len boot_len (va_cons (ve_var 0) (va_nil))) (ve_int)) (vw_and1 (vt_cmp (or_eq (room64 hr)) ov_eq (ve_ix (ve_ix (ve_var 0) (ve_int)) (ve_int)) (ve_ix (ve_ix (ve_var 0) (ve_neg (ve_int))) (ve_int)))))) (vs_cons (vs_if (vt_cmp (or_eq (room64 hr)) ov_eq (ve_callB call_len cv_len T.z_len boot_len (va_cons (ve_var 0) (va_nil))) (ve_int)) (vs_one (vs_ret (ve_lst (va_cons (ve_tup (va_cons (ve_ix (ve_ix (ve_var 0) (ve_int)) (ve_int)) (va_cons (ve_bin or_add ov_add (ve_ix (ve_ix (ve_var 0) (ve_int)) (ve_int)) (ve_ix (ve_ix (ve_var 0) (ve_int)) (ve_int))) (va_nil)))) (va_nil))))) (vs_nil)) (vs_one (vs_ret (ve_bin or_add ov_add (ve_slice (ve_var 0) (vo_some (ve_int)) (vo_some (ve_neg (ve_int)))) (ve_lst (va_cons (ve_tup (va_cons (ve_ix (ve_ix (ve_var 0) (ve_int)) (ve_int)) (va_cons (ve_bin or_add ov_add (ve_ix (ve_ix (ve_var 0) (ve_neg (ve_int))) (ve_int)) (ve_ix (ve_ix (ve_var 0) (ve_int)) (ve_int))) (va_nil)))) (va_nil))))))) (vs_nil)) (vs_one (vs_ret (ve_callTy call_list_of cv_list T.z_list boot_list (va_cons (ve_var 0) (va_nil)))))
theorem ok_9 (T : Tx P w K mg base cl) (TD : TxD P w K mg base cl d) {f : Addr} {cdv : Value} {A : Around} {outer : List PySem.Env} {s : Shared} {H : Hp} {E : XK} {He : Hp} (hr : Room (d + 2) (A.deeper (envOfC "same_time" (defScope (topS 17)) s.heap.objs.size f cdv))) :
    PVs (cxOf (L2.CX P w) P w K mg base ["first", "start", "second", "other", "limit", "at", "gone", "there", "past", "time", "step"] "same_time" (defScope (topS 17)) f cdv A outer s H E) cl (fun c d _ H => E c d H) He H (defBody (topS 17)) (b_same_time (FT d)) := by
  have tk : Takes (cxOf (L2.CX P w) P w K mg base ["first", "start", "second", "other", "limit", "at", "gone", "there", "past", "time", "step"] "same_time" (defScope (topS 17)) f cdv A outer s H E) (fun c d _ H => E c d H) := takes_of rfl rfl rfl rfl
  have hp := passes_of (X := cxOf (L2.CX P w) P w K mg base ["first", "start", "second", "other", "limit", "at", "gone", "there", "past", "time", "step"] "same_time" (defScope (topS 17)) f cdv A outer s H E) rfl
  exact vs_cons (vs_set sc_9.nd (ve_bin or_add ov_add (vc (TD.d_whole_time) hr tk (va_cons (ve_var 0) (va_nil))) (vc (TD.d_whole_time) hr tk (va_cons (ve_var 2) (va_nil))))) (vs_cons (vs_aug iop_sub ov_sub sc_9.nd (vc (TD.d_gcd_of) hr tk (va_cons (vc (TD.d_whole_time) hr tk (va_cons (ve_var 0) (va_nil))) (va_cons (vc (TD.d_whole_time) hr tk (va_cons (ve_var 2) (va_nil))) (va_nil))))) (vs_cons (vs_tg (vc (TD.d_place_at) hr tk (va_cons (ve_var 0) (va_cons (ve_var 1) (va_nil)))) (pg_tup rfl (pgs_cons (pg_name (i := 5) sc_9.nd rfl (by first | exact Or.inl rfl | exact Or.inr rfl)) (pgs_cons (pg_name (i := 6) sc_9.nd rfl (by first | exact Or.inl rfl | exact Or.inr rfl)) (pgs_nil)))) (tg_tup (tgs_cons (tg_name 5) (tgs_cons (tg_name 6) (tgs_nil))))) (vs_cons (vs_tg (vc (TD.d_place_at) hr tk (va_cons (ve_var 2) (va_cons (ve_var 3) (va_nil)))) (pg_tup rfl (pgs_cons (pg_name (i := 7) sc_9.nd rfl (by first | exact Or.inl rfl | exact Or.inr rfl)) (pgs_cons (pg_name (i := 8) sc_9.nd rfl (by first | exact Or.inl rfl | exact Or.inr rfl)) (pgs_nil)))) (tg_tup (tgs_cons (tg_name 7) (tgs_cons (tg_name 8) (tgs_nil))))) (vs_cons (vs_set sc_9.nd (ve_int)) (vs_cons (vs_while hp (vt_cmp (or_eq (room64 hr)) ov_eq (ve_ix (ve_ix (ve_var 0) (ve_var 5)) (ve_int)) (ve_ix (ve_ix (ve_var 2) (ve_var 7)) (ve_int))) (vs_cons (vs_set sc_9.nd (ve_callB (cr_min2 rfl) cv_min T.z_min boot_min (va_cons (ve_bin op_sub ov_sub (ve_ix (ve_ix (ve_var 0) (ve_var 5)) (ve_int)) (ve_var 6)) (va_cons (ve_bin op_sub ov_sub (ve_ix (ve_ix (ve_var 2) (ve_var 7)) (ve_int)) (ve_var 8)) (va_nil))))) (vs_cons (vs_aug iop_add ov_iadd sc_9.nd (ve_var 10)) (vs_cons (vs_if (vt_cmp op_ge ov_ge (ve_var 9) (ve_var 4)) (vs_one (vs_ret (ve_non))) (vs_nil)) (vs_cons (vs_aug iop_add ov_iadd sc_9.nd (ve_var 10)) (vs_cons (vs_aug iop_add ov_iadd sc_9.nd (ve_var 10)) (vs_cons (vs_if (vt_cmp (or_eq (room64 hr)) ov_eq (ve_var 6) (ve_ix (ve_ix (ve_var 0) (ve_var 5)) (ve_int))) (vs_one (vs_par (i := 5) (j := 6) rfl sc_9.nd (va_cons (ve_bin op_mod ov_mod (ve_bin or_add ov_add (ve_var 5) (ve_int)) (ve_callB call_len cv_len T.z_len boot_len (va_cons (ve_var 0) (va_nil)))) (va_cons (ve_int) (va_nil))))) (vs_nil)) (vs_one (vs_if (vt_cmp (or_eq (room64 hr)) ov_eq (ve_var 8) (ve_ix (ve_ix (ve_var 2) (ve_var 7)) (ve_int))) (vs_one (vs_par (i := 7) (j := 8) rfl sc_9.nd (va_cons (ve_bin op_mod ov_mod (ve_bin or_add ov_add (ve_var 7) (ve_int)) (ve_callB call_len cv_len T.z_len boot_len (va_cons (ve_var 2) (va_nil)))) (va_cons (ve_int) (va_nil))))) (vs_nil)))))))))) (vs_one (vs_ret (ve_var 9))))))))
theorem ok_10 (T : Tx P w K mg base cl) (TD : TxD P w K mg base cl d) {f : Addr} {cdv : Value} {A : Around} {outer : List PySem.Env} {s : Shared} {H : Hp} {E : XK} {He : Hp} (hr : Room (d + 2) (A.deeper (envOfC "same_shown" (defScope (topS 18)) s.heap.objs.size f cdv))) :
    PVs (cxOf (L2.CX P w) P w K mg base ["first", "second"] "same_shown" (defScope (topS 18)) f cdv A outer s H E) cl (fun c d _ H => E c d H) He H (defBody (topS 18)) (b_same_shown (FT d)) := by
  have tk : Takes (cxOf (L2.CX P w) P w K mg base ["first", "second"] "same_shown" (defScope (topS 18)) f cdv A outer s H E) (fun c d _ H => E c d H) := takes_of rfl rfl rfl rfl
  exact vs_cons (vs_expr (vc (TD.d_check_loose) hr tk (va_cons (ve_var 0) (va_nil)))) (vs_cons (vs_expr (vc (TD.d_check_loose) hr tk (va_cons (ve_var 1) (va_nil)))) (vs_one (vs_ret (ve_cmp or_is ov_is (vc (TD.d_same_time) hr tk (va_cons (ve_var 0) (va_cons (ve_int) (va_cons (ve_var 1) (va_cons (ve_int) (va_nil)))))) (ve_non)))))
theorem ok_11 (T : Tx P w K mg base cl) (TD : TxD P w K mg base cl d) {f : Addr} {cdv : Value} {A : Around} {outer : List PySem.Env} {s : Shared} {H : Hp} {E : XK} {He : Hp} (hr : Room (d + 2) (A.deeper (envOfC "changes_of" (defScope (topS 19)) s.heap.objs.size f cdv))) :
    PVs (cxOf (L2.CX P w) P w K mg base ["phases", "times", "time", "_", "whole"] "changes_of" (defScope (topS 19)) f cdv A outer s H E) cl (fun c d _ H => E c d H) He H (defBody (topS 19)) (b_changes_of (FT d)) := by
  have tk : Takes (cxOf (L2.CX P w) P w K mg base ["phases", "times", "time", "_", "whole"] "changes_of" (defScope (topS 19)) f cdv A outer s H E) (fun c d _ H => E c d H) := takes_of rfl rfl rfl rfl
  have hp := passes_of (X := cxOf (L2.CX P w) P w K mg base ["phases", "times", "time", "_", "whole"] "changes_of" (defScope (topS 19)) f cdv A outer s H E) rfl
  exact vs_cons (vs_own sc_11.nd (vo_lst (va_nil))) (vs_cons (vs_set sc_11.nd (ve_int)) (vs_cons (vs_for hp rfl bears_wk wk_of (vi_seq (ve_var 0)) (pg_tup rfl (pgs_cons (pg_name (i := 3) sc_11.nd rfl (by first | exact Or.inl rfl | exact Or.inr rfl)) (pgs_cons (pg_name (i := 4) sc_11.nd rfl (by first | exact Or.inl rfl | exact Or.inr rfl)) (pgs_nil)))) (tg_tup (tgs_cons (tg_name 3) (tgs_cons (tg_name 4) (tgs_nil)))) (vs_cons (vs_met PySem.F.slot_list_append PySem.F.type_list_append mt_append met_app (va_cons (ve_var 2) (va_nil))) (vs_one (vs_aug iop_add ov_iadd sc_11.nd (ve_var 4))))) (vs_one (vs_ret (ve_var 1)))))
theorem ok_12 (T : Tx P w K mg base cl) (TD : TxD P w K mg base cl d) {f : Addr} {cdv : Value} {A : Around} {outer : List PySem.Env} {s : Shared} {H : Hp} {E : XK} {He : Hp} (hr : Room (d + 2) (A.deeper (envOfC "turn_between" (defScope (topS 20)) s.heap.objs.size f cdv))) :
    PVs (cxOf (L2.CX P w) P w K mg base ["first", "second", "one", "other", "begin", "shift", "whole", "starts", "start", "time"] "turn_between" (defScope (topS 20)) f cdv A outer s H E) cl (fun c d _ H => E c d H) He H (defBody (topS 20)) (b_turn_between (FT d)) := by
  have tk : Takes (cxOf (L2.CX P w) P w K mg base ["first", "second", "one", "other", "begin", "shift", "whole", "starts", "start", "time"] "turn_between" (defScope (topS 20)) f cdv A outer s H E) (fun c d _ H => E c d H) := takes_of rfl rfl rfl rfl
  have hp := passes_of (X := cxOf (L2.CX P w) P w K mg base ["first", "second", "one", "other", "begin", "shift", "whole", "starts", "start", "time"] "turn_between" (defScope (topS 20)) f cdv A outer s H E) rfl
  exact vs_cons (vs_set sc_12.nd (vc (TD.d_joined) hr tk (va_cons (ve_var 0) (va_nil)))) (vs_cons (vs_set sc_12.nd (vc (TD.d_joined) hr tk (va_cons (ve_var 1) (va_nil)))) (vs_cons (vs_if (PW.pt (vw_or (vt_cmp (or_eq (room64 hr)) ov_eq (ve_callB call_len cv_len T.z_len boot_len (va_cons (ve_var 2) (va_nil))) (ve_int)) (vw_or1 (vt_cmp (or_eq (room64 hr)) ov_eq (ve_callB call_len cv_len T.z_len boot_len (va_cons (ve_var 3) (va_nil))) (ve_int))))) (vs_one (vs_ret (ve_if (PW.pt (vw_and (vt_cmp (or_eq (room64 hr)) ov_eq (ve_callB call_len cv_len T.z_len boot_len (va_cons (ve_var 2) (va_nil))) (ve_callB call_len cv_len T.z_len boot_len (va_cons (ve_var 3) (va_nil)))) (vw_and1 (vt_cmp (or_eq (room64 hr)) ov_eq (ve_ix (ve_ix (ve_var 2) (ve_int)) (ve_int)) (ve_ix (ve_ix (ve_var 3) (ve_int)) (ve_int)))))) (ve_int) (ve_non)))) (vs_nil)) (vs_cons (vs_set sc_12.nd (ve_if (vt_cmp (or_eq (room64 hr)) ov_eq (ve_ix (ve_ix (ve_var 0) (ve_int)) (ve_int)) (ve_ix (ve_ix (ve_var 0) (ve_neg (ve_int))) (ve_int))) (ve_ix (ve_ix (ve_var 0) (ve_int)) (ve_int)) (ve_int))) (vs_cons (vs_set sc_12.nd (ve_if (vt_cmp (or_eq (room64 hr)) ov_eq (ve_ix (ve_ix (ve_var 1) (ve_int)) (ve_int)) (ve_ix (ve_ix (ve_var 1) (ve_neg (ve_int))) (ve_int))) (ve_ix (ve_ix (ve_var 1) (ve_int)) (ve_int)) (ve_int))) (vs_cons (vs_set sc_12.nd (vc (TD.d_whole_time) hr tk (va_cons (ve_var 1) (va_nil)))) (vs_cons (vs_set sc_12.nd (ve_callB cr_sortedI cv_sort T.z_sorted boot_sorted (va_cons (ve_ofO (vo_lc (own := [(("time" : Str), 9)]) rfl sc_12.nd (vi_seq (vc (TD.d_changes_of) hr tk (va_cons (ve_var 3) (va_nil)))) wk_of (blk_of (by rfl)) (tg_name 9) (mem_tn rfl) (fun _ _ _ _ _ => pg_name (i := 9) sc_12.nd rfl (by first | exact Or.inl rfl | exact Or.inr rfl)) (fun _ _ _ _ _ => vts_nil) (fun _ _ _ _ _ => ve_bin op_mod ov_mod (ve_bin op_sub ov_sub (ve_bin or_add ov_add (ve_var 9) (ve_var 5)) (ve_var 4)) (ve_var 6)))) (va_nil)))) (vs_cons (vs_for hp rfl bears_wk wk_of (vi_seq (ve_var 7)) (pg_name (i := 8) sc_12.nd rfl (by first | exact Or.inl rfl | exact Or.inr rfl)) (tg_name 8) (vs_one (vs_if (vt_cmp or_is ov_is (vc (TD.d_same_time) hr tk (va_cons (ve_var 0) (va_cons (ve_int) (va_cons (ve_var 1) (va_cons (ve_var 8) (va_nil)))))) (ve_non)) (vs_one (vs_ret (ve_var 8))) (vs_nil)))) (vs_one (vs_ret (ve_non))))))))))
theorem ok_13 (T : Tx P w K mg base cl) (TD : TxD P w K mg base cl d) {f : Addr} {cdv : Value} {A : Around} {outer : List PySem.Env} {s : Shared} {H : Hp} {E : XK} {He : Hp} (hr : Room (d + 2) (A.deeper (envOfC "same_turned" (defScope (topS 21)) s.heap.objs.size f cdv))) :
    PVs (cxOf (L2.CX P w) P w K mg base ["first", "second"] "same_turned" (defScope (topS 21)) f cdv A outer s H E) cl (fun c d _ H => E c d H) He H (defBody (topS 21)) (b_same_turned (FT d)) := by
  have tk : Takes (cxOf (L2.CX P w) P w K mg base ["first", "second"] "same_turned" (defScope (topS 21)) f cdv A outer s H E) (fun c d _ H => E c d H) := takes_of rfl rfl rfl rfl
  exact vs_cons (vs_expr (vc (TD.d_check_loose) hr tk (va_cons (ve_var 0) (va_nil)))) (vs_cons (vs_expr (vc (TD.d_check_loose) hr tk (va_cons (ve_var 1) (va_nil)))) (vs_one (vs_ret (vc (TD.d_turn_between) hr tk (va_cons (ve_callTy call_list_of cv_list T.z_list boot_list (va_cons (ve_var 0) (va_nil))) (va_cons (ve_callTy call_list_of cv_list T.z_list boot_list (va_cons (ve_var 1) (va_nil))) (va_nil)))))))
theorem ok_14 (T : Tx P w K mg base cl) (TD : TxD P w K mg base cl d) {f : Addr} {cdv : Value} {A : Around} {outer : List PySem.Env} {s : Shared} {H : Hp} {E : XK} {He : Hp} (hr : Room (d + 2) (A.deeper (envOfC "turns_of" (defScope (topS 22)) s.heap.objs.size f cdv))) :
    PVs (cxOf (L2.CX P w) P w K mg base ["phases", "at"] "turns_of" (defScope (topS 22)) f cdv A outer s H E) cl (fun c d _ H => E c d H) He H (defBody (topS 22)) (b_turns_of (FT d)) := by
  have tk : Takes (cxOf (L2.CX P w) P w K mg base ["phases", "at"] "turns_of" (defScope (topS 22)) f cdv A outer s H E) (fun c d _ H => E c d H) := takes_of rfl rfl rfl rfl
  exact vs_one (vs_ret (ve_ofO (vo_lc (own := [(("at" : Str), 1)]) rfl sc_14.nd (vi_r1 (ve_callB call_len cv_len T.z_len boot_len (va_cons (ve_var 0) (va_nil))) T.z_range) wkA_of (blk_of (by rfl)) (tg_name 1) (mem_tn rfl) (fun _ _ _ _ _ => pg_name (i := 1) sc_14.nd rfl (by first | exact Or.inl rfl | exact Or.inr rfl)) (fun _ _ _ _ _ => vts_nil) (fun _ _ _ _ _ => ve_bin or_add ov_add (ve_slice (ve_var 0) (vo_some (ve_var 1)) (vo_none)) (ve_slice (ve_var 0) (vo_none) (vo_some (ve_var 1)))))))
theorem ok_15 (T : Tx P w K mg base cl) (TD : TxD P w K mg base cl d) {f : Addr} {cdv : Value} {A : Around} {outer : List PySem.Env} {s : Shared} {H : Hp} {E : XK} {He : Hp} (hr : Room (d + 2) (A.deeper (envOfC "coloured" (defScope (topS 23)) s.heap.objs.size f cdv))) :
    PVs (cxOf (L2.CX P w) P w K mg base ["phases", "colour", "time"] "coloured" (defScope (topS 23)) f cdv A outer s H E) cl (fun c d _ H => E c d H) He H (defBody (topS 23)) (b_coloured (FT d)) := by
  have tk : Takes (cxOf (L2.CX P w) P w K mg base ["phases", "colour", "time"] "coloured" (defScope (topS 23)) f cdv A outer s H E) (fun c d _ H => E c d H) := takes_of rfl rfl rfl rfl
  exact vs_one (vs_ret (ve_ofO (vo_lc (own := [(("colour" : Str), 1), (("time" : Str), 2)]) rfl sc_15.nd (vi_seq (ve_var 0)) wk_of (blk_of (by rfl)) (tg_tup (tgs_cons (tg_name 1) (tgs_cons (tg_name 2) (tgs_nil)))) (tin_t (tin_cons (mem_tn rfl) (tin_cons (mem_tn rfl) (tin_nil)))) (fun _ _ _ _ _ => pg_tup rfl (pgs_cons (pg_name (i := 1) sc_15.nd rfl (by first | exact Or.inl rfl | exact Or.inr rfl)) (pgs_cons (pg_name (i := 2) sc_15.nd rfl (by first | exact Or.inl rfl | exact Or.inr rfl)) (pgs_nil)))) (fun _ _ _ _ _ => vts_nil) (fun _ _ _ _ _ => ve_tup (va_cons (ve_idxG T.ct_COLOURS (ve_var 1)) (va_cons (ve_var 2) (va_nil)))))))
theorem ok_16 (T : Tx P w K mg base cl) (TD : TxD P w K mg base cl d) {f : Addr} {cdv : Value} {A : Around} {outer : List PySem.Env} {s : Shared} {H : Hp} {E : XK} {He : Hp} (hr : Room (d + 2) (A.deeper (envOfC "least_of_turns" (defScope (topS 24)) s.heap.objs.size f cdv))) :
    PVs (cxOf (L2.CX P w) P w K mg base ["phases", "told", "least", "colour", "time", "turn"] "least_of_turns" (defScope (topS 24)) f cdv A outer s H E) cl (fun c d _ H => E c d H) He H (defBody (topS 24)) (b_least_of_turns (FT d)) := by
  have tk : Takes (cxOf (L2.CX P w) P w K mg base ["phases", "told", "least", "colour", "time", "turn"] "least_of_turns" (defScope (topS 24)) f cdv A outer s H E) (fun c d _ H => E c d H) := takes_of rfl rfl rfl rfl
  exact vs_cons (vs_set sc_16.nd (vc (TD.d_shortest) hr tk (va_cons (vc (TD.d_joined) hr tk (va_cons (ve_var 0) (va_nil))) (va_nil)))) (vs_cons (vs_if (vt_cmp (or_eq (room64 hr)) ov_eq (ve_callB call_len cv_len T.z_len boot_len (va_cons (ve_var 1) (va_nil))) (ve_int)) (vs_one (vs_ret (ve_lst (va_cons (ve_tup (va_cons (ve_ix (ve_ix (ve_var 1) (ve_int)) (ve_int)) (va_cons (ve_int) (va_nil)))) (va_nil))))) (vs_nil)) (vs_cons (vs_set sc_16.nd (ve_callB (cr_minD rfl (room64 hr)) cv_minD T.z_min boot_min (va_cons (ve_ofO (vo_lc (own := [(("turn" : Str), 5)]) rfl sc_16.nd (vi_seq (vc (TD.d_turns_of) hr tk (va_cons (ve_var 1) (va_nil)))) wk_of (blk_of (by rfl)) (tg_name 5) (mem_tn rfl) (fun _ _ _ _ _ => pg_name (i := 5) sc_16.nd rfl (by first | exact Or.inl rfl | exact Or.inr rfl)) (fun _ _ _ _ _ => vts_nil) (fun _ _ _ _ _ => vc (TD.d_coloured) hr takes_none5 (va_cons (ve_var 5) (va_nil))))) (va_nil)))) (vs_one (vs_ret (ve_ofO (vo_lc (own := [(("colour" : Str), 3), (("time" : Str), 4)]) rfl sc_16.nd (vi_seq (ve_var 2)) wk_of (blk_of (by rfl)) (tg_tup (tgs_cons (tg_name 3) (tgs_cons (tg_name 4) (tgs_nil)))) (tin_t (tin_cons (mem_tn rfl) (tin_cons (mem_tn rfl) (tin_nil)))) (fun _ _ _ _ _ => pg_tup rfl (pgs_cons (pg_name (i := 3) sc_16.nd rfl (by first | exact Or.inl rfl | exact Or.inr rfl)) (pgs_cons (pg_name (i := 4) sc_16.nd rfl (by first | exact Or.inl rfl | exact Or.inr rfl)) (pgs_nil)))) (fun _ _ _ _ _ => vts_nil) (fun _ _ _ _ _ => ve_tup (va_cons (ve_ix (ve_glob T.c_COLOURS) (ve_var 3)) (va_cons (ve_var 4) (va_nil))))))))))
theorem ok_17 (T : Tx P w K mg base cl) (TD : TxD P w K mg base cl d) {f : Addr} {cdv : Value} {A : Around} {outer : List PySem.Env} {s : Shared} {H : Hp} {E : XK} {He : Hp} (hr : Room (d + 2) (A.deeper (envOfC "least_turn" (defScope (topS 25)) s.heap.objs.size f cdv))) :
    PVs (cxOf (L2.CX P w) P w K mg base ["phases"] "least_turn" (defScope (topS 25)) f cdv A outer s H E) cl (fun c d _ H => E c d H) He H (defBody (topS 25)) (b_least_turn (FT d)) := by
  have tk : Takes (cxOf (L2.CX P w) P w K mg base ["phases"] "least_turn" (defScope (topS 25)) f cdv A outer s H E) (fun c d _ H => E c d H) := takes_of rfl rfl rfl rfl
  exact vs_cons (vs_expr (vc (TD.d_check_loose) hr tk (va_cons (ve_var 0) (va_nil)))) (vs_one (vs_ret (vc (TD.d_least_of_turns) hr tk (va_cons (ve_callTy call_list_of cv_list T.z_list boot_list (va_cons (ve_var 0) (va_nil))) (va_nil)))))
theorem ok_18 (T : Tx P w K mg base cl) (TD : TxD P w K mg base cl d) {f : Addr} {cdv : Value} {A : Around} {outer : List PySem.Env} {s : Shared} {H : Hp} {E : XK} {He : Hp} (hr : Room (d + 2) (A.deeper (envOfC "_law_cell" (defScope (topS 27)) s.heap.objs.size f cdv))) :
    PVs (cxOf (L2.CX P w) P w K mg base ["script", "k"] "_law_cell" (defScope (topS 27)) f cdv A outer s H E) cl (fun c d _ H => E c d H) He H (defBody (topS 27)) (b__law_cell (FT d)) := by
  have tk : Takes (cxOf (L2.CX P w) P w K mg base ["script", "k"] "_law_cell" (defScope (topS 27)) f cdv A outer s H E) (fun c d _ H => E c d H) := takes_of rfl rfl rfl rfl
  exact vs_cons (vs_if (vt_cmp (or_lt (room0 hr)) ov_lt (ve_var 1) (ve_callB call_len cv_len T.z_len boot_len (va_cons (ve_var 0) (va_nil)))) (vs_one (vs_ret (ve_ix (ve_var 0) (ve_var 1)))) (vs_nil)) (vs_one (vs_ret (ve_int)))
theorem ok_19 (T : Tx P w K mg base cl) (TD : TxD P w K mg base cl d) {f : Addr} {cdv : Value} {A : Around} {outer : List PySem.Env} {s : Shared} {H : Hp} {E : XK} {He : Hp} (hr : Room (d + 2) (A.deeper (envOfC "_law_draw" (defScope (topS 28)) s.heap.objs.size f cdv))) :
    PVs (cxOf (L2.CX P w) P w K mg base ["cell", "limits", "row", "rest", "great", "k", "mixed"] "_law_draw" (defScope (topS 28)) f cdv A outer s H E) cl (fun c d _ H => E c d H) He H (defBody (topS 28)) (b__law_draw (FT d)) := by
  have tk : Takes (cxOf (L2.CX P w) P w K mg base ["cell", "limits", "row", "rest", "great", "k", "mixed"] "_law_draw" (defScope (topS 28)) f cdv A outer s H E) (fun c d _ H => E c d H) := takes_of rfl rfl rfl rfl
  have hp := passes_of (X := cxOf (L2.CX P w) P w K mg base ["cell", "limits", "row", "rest", "great", "k", "mixed"] "_law_draw" (defScope (topS 28)) f cdv A outer s H E) rfl
  exact vs_cons (vs_own sc_19.nd (vo_lst (va_nil))) (vs_cons (vs_set sc_19.nd (ve_callB call_abs cv_abs T.z_abs boot_abs (va_cons (ve_var 0) (va_nil)))) (vs_cons (vs_set sc_19.nd (ve_cmp op_ge ov_ge (ve_var 3) (ve_int))) (vs_cons (vs_for hp rfl bears_wkA wkA_of (vi_r1 (ve_callB call_len cv_len T.z_len boot_len (va_cons (ve_var 1) (va_nil))) T.z_range) (pg_name (i := 5) sc_19.nd rfl (by first | exact Or.inl rfl | exact Or.inr rfl)) (tg_name 5) (vs_one (vs_if (PW.pt (vw_and (vt_tru (ve_var 4)) (vw_and1 (vt_cmp op_ge ov_ge (ve_var 3) (ve_ix (ve_var 1) (ve_var 5)))))) (vs_cons (vs_met PySem.F.slot_list_append PySem.F.type_list_append mt_append met_app (va_cons (ve_bin op_mod ov_mod (ve_callTy call_int1 cv_int T.z_int boot_int (va_cons (ve_var 3) (va_nil))) (ve_ix (ve_var 1) (ve_var 5))) (va_nil))) (vs_one (vs_set sc_19.nd (ve_bin op_fdivS ov_div (ve_var 3) (ve_ix (ve_var 1) (ve_var 5)))))) (vs_cons (vs_set sc_19.nd (ve_bin op_mod ov_mod (ve_callTy call_int1 cv_int T.z_int boot_int (va_cons (ve_bin or_add ov_add (ve_bin or_mul ov_mul (ve_callB call_abs cv_abs T.z_abs boot_abs (va_cons (ve_var 0) (va_nil))) (ve_int)) (ve_bin or_mul ov_mul (ve_bin or_add ov_add (ve_var 5) (ve_int)) (ve_int))) (va_nil))) (ve_int))) (vs_cons (vs_set sc_19.nd (ve_bin op_mod ov_mod (ve_callTy call_int1 cv_int T.z_int boot_int (va_cons (ve_bin or_add ov_add (ve_bin or_mul ov_mul (ve_var 6) (ve_int)) (ve_bin or_mul ov_mul (ve_bin or_add ov_add (ve_var 5) (ve_int)) (ve_int))) (va_nil))) (ve_int))) (vs_one (vs_met PySem.F.slot_list_append PySem.F.type_list_append mt_append met_app (va_cons (ve_bin op_mod ov_mod (ve_callTy call_int1 cv_int T.z_int boot_int (va_cons (ve_var 6) (va_nil))) (ve_ix (ve_var 1) (ve_var 5))) (va_nil))))))))) (vs_one (vs_ret (ve_var 2))))))
theorem ok_20 (T : Tx P w K mg base cl) (TD : TxD P w K mg base cl d) {f : Addr} {cdv : Value} {A : Around} {outer : List PySem.Env} {s : Shared} {H : Hp} {E : XK} {He : Hp} (hr : Room (d + 2) (A.deeper (envOfC "_law_whole" (defScope (topS 29)) s.heap.objs.size f cdv))) :
    PVs (cxOf (L2.CX P w) P w K mg base ["x"] "_law_whole" (defScope (topS 29)) f cdv A outer s H E) cl (fun c d _ H => E c d H) He H (defBody (topS 29)) (b__law_whole (FT d)) := by
  have tk : Takes (cxOf (L2.CX P w) P w K mg base ["x"] "_law_whole" (defScope (topS 29)) f cdv A outer s H E) (fun c d _ H => E c d H) := takes_of rfl rfl rfl rfl
  exact vs_one (vs_ret (ve_and (ve_callB call_isi cv_isa T.z_isinstance boot_isinstance (va_cons (ve_var 0) (va_cons ((ve_ty T.z_int boot_int)) (va_nil)))) (ve_one (ve_not (ve_callB call_isi cv_isa T.z_isinstance boot_isinstance (va_cons (ve_var 0) (va_cons ((ve_ty T.z_bool boot_bool)) (va_nil))))))))
theorem ok_21 (T : Tx P w K mg base cl) (TD : TxD P w K mg base cl d) {f : Addr} {cdv : Value} {A : Around} {outer : List PySem.Env} {s : Shared} {H : Hp} {E : XK} {He : Hp} (hr : Room (d + 2) (A.deeper (envOfC "_law_phases" (defScope (topS 30)) s.heap.objs.size f cdv))) :
    PVs (cxOf (L2.CX P w) P w K mg base ["cell", "most", "longest", "d", "count", "colours", "phases", "k", "e", "colour", "others"] "_law_phases" (defScope (topS 30)) f cdv A outer s H E) cl (fun c d _ H => E c d H) He H (defBody (topS 30)) (b__law_phases (FT d)) := by
  have tk : Takes (cxOf (L2.CX P w) P w K mg base ["cell", "most", "longest", "d", "count", "colours", "phases", "k", "e", "colour", "others"] "_law_phases" (defScope (topS 30)) f cdv A outer s H E) (fun c d _ H => E c d H) := takes_of rfl rfl rfl rfl
  have hp := passes_of (X := cxOf (L2.CX P w) P w K mg base ["cell", "most", "longest", "d", "count", "colours", "phases", "k", "e", "colour", "others"] "_law_phases" (defScope (topS 30)) f cdv A outer s H E) rfl
  exact vs_cons (vs_set sc_21.nd (vc (TD.d__law_draw) hr tk (va_cons (ve_var 0) (va_cons (ve_lst (va_cons (ve_var 1) (va_nil))) (va_nil))))) (vs_cons (vs_set sc_21.nd (ve_bin or_add ov_add (ve_int) (ve_ix (ve_var 3) (ve_int)))) (vs_cons (vs_set sc_21.nd (ve_lst (va_cons (ve_str) (va_cons (ve_str) (va_cons (ve_str) (va_cons (ve_str) (va_cons (ve_str) (va_nil)))))))) (vs_cons (vs_own sc_21.nd (vo_lst (va_nil))) (vs_cons (vs_for hp rfl bears_wkA wkA_of (vi_r1 (ve_var 4) T.z_range) (pg_name (i := 7) sc_21.nd rfl (by first | exact Or.inl rfl | exact Or.inr rfl)) (tg_name 7) (vs_cons (vs_set sc_21.nd (vc (TD.d__law_draw) hr tk (va_cons (ve_bin or_add ov_add (ve_bin op_fdivS ov_div (ve_var 0) (ve_int)) (ve_bin or_mul ov_mul (ve_int) (ve_var 7))) (va_cons (ve_lst (va_cons (ve_int) (va_cons (ve_var 2) (va_cons (ve_int) (va_nil))))) (va_nil))))) (vs_cons (vs_set sc_21.nd (ve_str)) (vs_cons (vs_if (PW.pt (vw_or (vt_cmp (or_eq (room64 hr)) ov_eq (ve_bin op_mod ov_mod (ve_callTy call_int1 cv_int T.z_int boot_int (va_cons (ve_var 7) (va_nil))) (ve_int)) (ve_int)) (vw_or1 (vt_cmp (or_eq (room64 hr)) ov_eq (ve_ix (ve_var 8) (ve_int)) (ve_int))))) (vs_one (vs_set sc_21.nd (ve_ix (ve_lst (va_cons (ve_ix (ve_lst (va_cons (ve_str) (va_cons (ve_str) (va_cons (ve_str) (va_cons (ve_str) (va_cons (ve_str) (va_cons (ve_str) (va_cons (ve_str) (va_cons (ve_str) (va_nil)))))))))) (ve_ix (ve_var 8) (ve_int))) (va_cons (ve_str) (va_nil)))) (ve_callTy call_int1 cv_int T.z_int boot_int (va_cons (ve_and (ve_cmp (or_eq (room64 hr)) ov_eq (ve_var 4) (ve_int)) (ve_one (ve_cmp (or_eq (room64 hr)) ov_eq (ve_ix (ve_var 8) (ve_int)) (ve_int)))) (va_nil)))))) (vs_nil)) (vs_cons (vs_if (PW.pt (vw_and (vt_cmp op_gt ov_gt (ve_callB call_len cv_len T.z_len boot_len (va_cons (ve_var 6) (va_nil))) (ve_int)) (vw_and1 (vt_cmp (or_eq (room64 hr)) ov_eq (ve_ix (ve_ix (ve_var 6) (ve_bin op_sub ov_sub (ve_callB call_len cv_len T.z_len boot_len (va_cons (ve_var 6) (va_nil))) (ve_int))) (ve_int)) (ve_var 9))))) (vs_one (vs_set sc_21.nd (ve_ix (ve_var 5) (ve_bin op_mod ov_mod (ve_callTy call_int1 cv_int T.z_int boot_int (va_cons (ve_bin or_add ov_add (ve_idxL (ve_var 5) (ve_var 9)) (ve_int)) (va_nil))) (ve_int))))) (vs_nil)) (vs_one (vs_met PySem.F.slot_list_append PySem.F.type_list_append mt_append met_app (va_cons (ve_tup (va_cons (ve_var 9) (va_cons (ve_bin or_add ov_add (ve_int) (ve_ix (ve_var 8) (ve_int))) (va_nil)))) (va_nil))))))))) (vs_cons (vs_if (PW.pt (vw_and (vt_cmp op_gt ov_gt (ve_var 4) (ve_int)) (vw_and1 (vt_cmp (or_eq (room64 hr)) ov_eq (ve_ix (ve_ix (ve_var 6) (ve_int)) (ve_int)) (ve_ix (ve_ix (ve_var 6) (ve_bin op_sub ov_sub (ve_var 4) (ve_int))) (ve_int)))))) (vs_cons (vs_ownLc (own := [(("colour" : Str), 9)]) rfl sc_21.nd (vi_seq (ve_var 5)) wk_of (blk_of (by rfl)) (tg_name 9) (mem_tn rfl) (fun _ _ _ _ _ => pg_name (i := 9) sc_21.nd rfl (by first | exact Or.inl rfl | exact Or.inr rfl)) (fun _ _ _ _ _ => vts_one (vt_cmp (or_nin (room65 hr)) ov_nin (ve_var 9) (ve_lst (va_cons (ve_ix (ve_ix (ve_var 6) (ve_int)) (ve_int)) (va_cons (ve_ix (ve_ix (ve_var 6) (ve_bin op_sub ov_sub (ve_var 4) (ve_int))) (ve_int)) (va_nil)))))) (fun _ _ _ _ _ => ve_var 9)) (vs_one (vs_put (ve_tup (va_cons (ve_ix (ve_var 10) (ve_bin op_sub ov_sub (ve_callB call_len cv_len T.z_len boot_len (va_cons (ve_var 10) (va_nil))) (ve_int))) (va_cons (ve_ix (ve_ix (ve_var 6) (ve_bin op_sub ov_sub (ve_var 4) (ve_int))) (ve_int)) (va_nil)))) (ve_bin op_sub ov_sub (ve_var 4) (ve_int))))) (vs_nil)) (vs_one (vs_ret (ve_var 6))))))))
theorem ok_22 (T : Tx P w K mg base cl) (TD : TxD P w K mg base cl d) {f : Addr} {cdv : Value} {A : Around} {outer : List PySem.Env} {s : Shared} {H : Hp} {E : XK} {He : Hp} (hr : Room (d + 2) (A.deeper (envOfC "_law_ticks" (defScope (topS 31)) s.heap.objs.size f cdv))) :
    PVs (cxOf (L2.CX P w) P w K mg base ["phases", "row", "phase"] "_law_ticks" (defScope (topS 31)) f cdv A outer s H E) cl (fun c d _ H => E c d H) He H (defBody (topS 31)) (b__law_ticks (FT d)) := by
  have tk : Takes (cxOf (L2.CX P w) P w K mg base ["phases", "row", "phase"] "_law_ticks" (defScope (topS 31)) f cdv A outer s H E) (fun c d _ H => E c d H) := takes_of rfl rfl rfl rfl
  have hp := passes_of (X := cxOf (L2.CX P w) P w K mg base ["phases", "row", "phase"] "_law_ticks" (defScope (topS 31)) f cdv A outer s H E) rfl
  exact vs_cons (vs_set sc_22.nd (ve_lst (va_nil))) (vs_cons (vs_for hp rfl bears_wk wk_of (vi_seq (ve_var 0)) (pg_name (i := 2) sc_22.nd rfl (by first | exact Or.inl rfl | exact Or.inr rfl)) (tg_name 2) (vs_one (vs_set sc_22.nd (ve_bin or_add ov_add (ve_var 1) (ve_bin or_mul ov_mul (ve_lst (va_cons (ve_ix (ve_var 2) (ve_int)) (va_nil))) (ve_ix (ve_var 2) (ve_int))))))) (vs_one (vs_ret (ve_var 1))))
theorem ok_23 (T : Tx P w K mg base cl) (TD : TxD P w K mg base cl d) {f : Addr} {cdv : Value} {A : Around} {outer : List PySem.Env} {s : Shared} {H : Hp} {E : XK} {He : Hp} (hr : Room (d + 2) (A.deeper (envOfC "_law_runs" (defScope (topS 32)) s.heap.objs.size f cdv))) :
    PVs (cxOf (L2.CX P w) P w K mg base ["row", "phases", "colour"] "_law_runs" (defScope (topS 32)) f cdv A outer s H E) cl (fun c d _ H => E c d H) He H (defBody (topS 32)) (b__law_runs (FT d)) := by
  have tk : Takes (cxOf (L2.CX P w) P w K mg base ["row", "phases", "colour"] "_law_runs" (defScope (topS 32)) f cdv A outer s H E) (fun c d _ H => E c d H) := takes_of rfl rfl rfl rfl
  have hp := passes_of (X := cxOf (L2.CX P w) P w K mg base ["row", "phases", "colour"] "_law_runs" (defScope (topS 32)) f cdv A outer s H E) rfl
  exact vs_cons (vs_own sc_23.nd (vo_lst (va_nil))) (vs_cons (vs_for hp rfl bears_wk wk_of (vi_seq (ve_var 0)) (pg_name (i := 2) sc_23.nd rfl (by first | exact Or.inl rfl | exact Or.inr rfl)) (tg_name 2) (vs_one (vs_if (PW.pt (vw_and (vt_cmp op_gt ov_gt (ve_callB call_len cv_len T.z_len boot_len (va_cons (ve_var 1) (va_nil))) (ve_int)) (vw_and1 (vt_cmp (or_eq (room64 hr)) ov_eq (ve_ix (ve_ix (ve_var 1) (ve_bin op_sub ov_sub (ve_callB call_len cv_len T.z_len boot_len (va_cons (ve_var 1) (va_nil))) (ve_int))) (ve_int)) (ve_var 2))))) (vs_one (vs_put (ve_tup (va_cons (ve_var 2) (va_cons (ve_bin or_add ov_add (ve_ix (ve_ix (ve_var 1) (ve_bin op_sub ov_sub (ve_callB call_len cv_len T.z_len boot_len (va_cons (ve_var 1) (va_nil))) (ve_int))) (ve_int)) (ve_int)) (va_nil)))) (ve_bin op_sub ov_sub (ve_callB call_len cv_len T.z_len boot_len (va_cons (ve_var 1) (va_nil))) (ve_int)))) (vs_one (vs_met PySem.F.slot_list_append PySem.F.type_list_append mt_append met_app (va_cons (ve_tup (va_cons (ve_var 2) (va_cons (ve_int) (va_nil)))) (va_nil))))))) (vs_one (vs_ret (ve_var 1))))
theorem ok_24 (T : Tx P w K mg base cl) (TD : TxD P w K mg base cl d) {f : Addr} {cdv : Value} {A : Around} {outer : List PySem.Env} {s : Shared} {H : Hp} {E : XK} {He : Hp} (hr : Room (d + 2) (A.deeper (envOfC "_law_least" (defScope (topS 33)) s.heap.objs.size f cdv))) :
    PVs (cxOf (L2.CX P w) P w K mg base ["phases", "row", "size"] "_law_least" (defScope (topS 33)) f cdv A outer s H E) cl (fun c d _ H => E c d H) He H (defBody (topS 33)) (b__law_least (FT d)) := by
  have tk : Takes (cxOf (L2.CX P w) P w K mg base ["phases", "row", "size"] "_law_least" (defScope (topS 33)) f cdv A outer s H E) (fun c d _ H => E c d H) := takes_of rfl rfl rfl rfl
  have hp := passes_of (X := cxOf (L2.CX P w) P w K mg base ["phases", "row", "size"] "_law_least" (defScope (topS 33)) f cdv A outer s H E) rfl
  exact vs_cons (vs_set sc_24.nd (vc (TD.d__law_ticks) hr tk (va_cons (ve_var 0) (va_nil)))) (vs_cons (vs_for hp rfl bears_wkA wkA_of (vi_r2 (ve_int) (ve_bin or_add ov_add (ve_callB call_len cv_len T.z_len boot_len (va_cons (ve_var 1) (va_nil))) (ve_int)) T.z_range) (pg_name (i := 2) sc_24.nd rfl (by first | exact Or.inl rfl | exact Or.inr rfl)) (tg_name 2) (vs_one (vs_if (PW.pt (vw_and (vt_cmp (or_eq (room64 hr)) ov_eq (ve_bin or_mul ov_mul (ve_bin op_fdivS ov_div (ve_callB call_len cv_len T.z_len boot_len (va_cons (ve_var 1) (va_nil))) (ve_var 2)) (ve_var 2)) (ve_callB call_len cv_len T.z_len boot_len (va_cons (ve_var 1) (va_nil)))) (vw_and1 (vt_cmp (or_eq (room64 hr)) ov_eq (ve_var 1) (ve_bin or_mul ov_mul (ve_slice (ve_var 1) (vo_none) (vo_some (ve_var 2))) (ve_bin op_fdivS ov_div (ve_callB call_len cv_len T.z_len boot_len (va_cons (ve_var 1) (va_nil))) (ve_var 2))))))) (vs_one (vs_ret (ve_var 2))) (vs_nil)))) (vs_one (vs_ret (ve_callB call_len cv_len T.z_len boot_len (va_cons (ve_var 1) (va_nil))))))
theorem ok_25 (T : Tx P w K mg base cl) (TD : TxD P w K mg base cl d) {f : Addr} {cdv : Value} {A : Around} {outer : List PySem.Env} {s : Shared} {H : Hp} {E : XK} {He : Hp} (hr : Room (d + 2) (A.deeper (envOfC "_law_order" (defScope (topS 34)) s.heap.objs.size f cdv))) :
    PVs (cxOf (L2.CX P w) P w K mg base ["phases", "phase"] "_law_order" (defScope (topS 34)) f cdv A outer s H E) cl (fun c d _ H => E c d H) He H (defBody (topS 34)) (b__law_order (FT d)) := by
  have tk : Takes (cxOf (L2.CX P w) P w K mg base ["phases", "phase"] "_law_order" (defScope (topS 34)) f cdv A outer s H E) (fun c d _ H => E c d H) := takes_of rfl rfl rfl rfl
  exact vs_one (vs_ret (ve_ofO (vo_lc (own := [(("phase" : Str), 1)]) rfl sc_25.nd (vi_seq (ve_var 0)) wk_of (blk_of (by rfl)) (tg_name 1) (mem_tn rfl) (fun _ _ _ _ _ => pg_name (i := 1) sc_25.nd rfl (by first | exact Or.inl rfl | exact Or.inr rfl)) (fun _ _ _ _ _ => vts_nil) (fun _ _ _ _ _ => ve_tup (va_cons (ve_idxL (ve_lst (va_cons (ve_str) (va_cons (ve_str) (va_cons (ve_str) (va_cons (ve_str) (va_cons (ve_str) (va_nil))))))) (ve_ix (ve_var 1) (ve_int))) (va_cons (ve_ix (ve_var 1) (ve_int)) (va_nil)))))))
theorem ok_26 (T : Tx P w K mg base cl) (TD : TxD P w K mg base cl d) {f : Addr} {cdv : Value} {A : Around} {outer : List PySem.Env} {s : Shared} {H : Hp} {E : XK} {He : Hp} (hr : Room (d + 2) (A.deeper (envOfC "_law_shift" (defScope (topS 35)) s.heap.objs.size f cdv))) :
    PVs (cxOf (L2.CX P w) P w K mg base ["first", "second", "one", "two", "shift", "same", "k"] "_law_shift" (defScope (topS 35)) f cdv A outer s H E) cl (fun c d _ H => E c d H) He H (defBody (topS 35)) (b__law_shift (FT d)) := by
  have tk : Takes (cxOf (L2.CX P w) P w K mg base ["first", "second", "one", "two", "shift", "same", "k"] "_law_shift" (defScope (topS 35)) f cdv A outer s H E) (fun c d _ H => E c d H) := takes_of rfl rfl rfl rfl
  have hp := passes_of (X := cxOf (L2.CX P w) P w K mg base ["first", "second", "one", "two", "shift", "same", "k"] "_law_shift" (defScope (topS 35)) f cdv A outer s H E) rfl
  exact vs_cons (vs_set sc_26.nd (vc (TD.d__law_ticks) hr tk (va_cons (ve_var 0) (va_nil)))) (vs_cons (vs_set sc_26.nd (vc (TD.d__law_ticks) hr tk (va_cons (ve_var 1) (va_nil)))) (vs_cons (vs_for hp rfl bears_wkA wkA_of (vi_r1 (ve_callB call_len cv_len T.z_len boot_len (va_cons (ve_var 3) (va_nil))) T.z_range) (pg_name (i := 4) sc_26.nd rfl (by first | exact Or.inl rfl | exact Or.inr rfl)) (tg_name 4) (vs_cons (vs_set sc_26.nd (ve_bl)) (vs_cons (vs_for hp rfl bears_wkA wkA_of (vi_r1 (ve_bin or_mul ov_mul (ve_callB call_len cv_len T.z_len boot_len (va_cons (ve_var 2) (va_nil))) (ve_callB call_len cv_len T.z_len boot_len (va_cons (ve_var 3) (va_nil)))) T.z_range) (pg_name (i := 6) sc_26.nd rfl (by first | exact Or.inl rfl | exact Or.inr rfl)) (tg_name 6) (vs_one (vs_if (vt_cmp (or_ne (room64 hr)) ov_ne (ve_ix (ve_var 2) (ve_bin op_mod ov_mod (ve_callTy call_int1 cv_int T.z_int boot_int (va_cons (ve_var 6) (va_nil))) (ve_callB call_len cv_len T.z_len boot_len (va_cons (ve_var 2) (va_nil))))) (ve_ix (ve_var 3) (ve_bin op_mod ov_mod (ve_callTy call_int1 cv_int T.z_int boot_int (va_cons (ve_bin or_add ov_add (ve_var 4) (ve_var 6)) (va_nil))) (ve_callB call_len cv_len T.z_len boot_len (va_cons (ve_var 3) (va_nil)))))) (vs_cons (vs_set sc_26.nd (ve_bl)) (vs_one (vs_break))) (vs_nil)))) (vs_one (vs_if (vt_tru (ve_var 5)) (vs_one (vs_ret (ve_var 4))) (vs_nil)))))) (vs_one (vs_ret (ve_non)))))
theorem ok_27 (T : Tx P w K mg base cl) (TD : TxD P w K mg base cl d) {f : Addr} {cdv : Value} {A : Around} {outer : List PySem.Env} {s : Shared} {H : Hp} {E : XK} {He : Hp} (hr : Room (d + 2) (A.deeper (envOfC "_law_turn" (defScope (topS 36)) s.heap.objs.size f cdv))) :
    PVs (cxOf (L2.CX P w) P w K mg base ["phases", "row", "best", "k", "turned"] "_law_turn" (defScope (topS 36)) f cdv A outer s H E) cl (fun c d _ H => E c d H) He H (defBody (topS 36)) (b__law_turn (FT d)) := by
  have tk : Takes (cxOf (L2.CX P w) P w K mg base ["phases", "row", "best", "k", "turned"] "_law_turn" (defScope (topS 36)) f cdv A outer s H E) (fun c d _ H => E c d H) := takes_of rfl rfl rfl rfl
  have hp := passes_of (X := cxOf (L2.CX P w) P w K mg base ["phases", "row", "best", "k", "turned"] "_law_turn" (defScope (topS 36)) f cdv A outer s H E) rfl
  exact vs_cons (vs_set sc_27.nd (ve_slice (vc (TD.d__law_ticks) hr tk (va_cons (ve_var 0) (va_nil))) (vo_none) (vo_some (vc (TD.d__law_least) hr tk (va_cons (ve_var 0) (va_nil)))))) (vs_cons (vs_set sc_27.nd (ve_non)) (vs_cons (vs_for hp rfl bears_wkA wkA_of (vi_r1 (ve_callB call_len cv_len T.z_len boot_len (va_cons (ve_var 1) (va_nil))) T.z_range) (pg_name (i := 3) sc_27.nd rfl (by first | exact Or.inl rfl | exact Or.inr rfl)) (tg_name 3) (vs_one (vs_if (PW.pt (vw_or (vt_cmp (or_ne (room64 hr)) ov_ne (ve_ix (ve_var 1) (ve_var 3)) (ve_ix (ve_var 1) (ve_bin op_sub ov_sub (ve_var 3) (ve_int)))) (vw_or1 (vt_cmp (or_eq (room64 hr)) ov_eq (ve_lenSet rfl T.z_len T.z_set (ve_var 1)) (ve_int))))) (vs_cons (vs_set sc_27.nd (vc (TD.d__law_runs) hr tk (va_cons (ve_bin or_add ov_add (ve_slice (ve_var 1) (vo_some (ve_var 3)) (vo_none)) (ve_slice (ve_var 1) (vo_none) (vo_some (ve_var 3)))) (va_nil)))) (vs_one (vs_if (PW.pt (vw_or (vt_cmp or_is ov_is (ve_var 2) (ve_non)) (vw_or1 (vt_cmp (or_ltD (room64 hr)) ov_ltD (vc (TD.d__law_order) hr tk (va_cons (ve_var 4) (va_nil))) (vc (TD.d__law_order) hr tk (va_cons (ve_var 2) (va_nil))))))) (vs_one (vs_set sc_27.nd (ve_var 4))) (vs_nil)))) (vs_nil)))) (vs_one (vs_ret (ve_var 2)))))
theorem ok_28 (T : Tx P w K mg base cl) (TD : TxD P w K mg base cl d) {f : Addr} {cdv : Value} {A : Around} {outer : List PySem.Env} {s : Shared} {H : Hp} {E : XK} {He : Hp} (hr : Room (d + 2) (A.deeper (envOfC "law" (defScope (topS 37)) s.heap.objs.size f cdv))) :
    PVs (cxOf (L2.CX P w) P w K mg base ["script", "first", "second", "row", "at", "shift", "told", "same"] "law" (defScope (topS 37)) f cdv A outer s H E) cl (fun c d _ H => E c d H) He H (defBody (topS 37)) (b_law_v13 (FT d)) := by
  have tk : Takes (cxOf (L2.CX P w) P w K mg base ["script", "first", "second", "row", "at", "shift", "told", "same"] "law" (defScope (topS 37)) f cdv A outer s H E) (fun c d _ H => E c d H) := takes_of rfl rfl rfl rfl
  exact vs_cons (vs_set sc_28.nd (vc (TD.d__law_phases) hr tk (va_cons (ve_callB call_abs cv_abs T.z_abs boot_abs (va_cons (vc (TD.d__law_cell) hr tk (va_cons (ve_var 0) (va_cons (ve_int) (va_nil)))) (va_nil))) (va_cons (ve_int) (va_cons (ve_int) (va_nil)))))) (vs_cons (vs_set sc_28.nd (vc (TD.d__law_phases) hr tk (va_cons (ve_callB call_abs cv_abs T.z_abs boot_abs (va_cons (vc (TD.d__law_cell) hr tk (va_cons (ve_var 0) (va_cons (ve_int) (va_nil)))) (va_nil))) (va_cons (ve_int) (va_cons (ve_int) (va_nil)))))) (vs_cons (vs_if (PW.pt (vw_and (vt_cmp (or_eq (room64 hr)) ov_eq (ve_bin op_mod ov_mod (ve_callTy call_int1 cv_int T.z_int boot_int (va_cons (vc (TD.d__law_cell) hr tk (va_cons (ve_var 0) (va_cons (ve_int) (va_nil)))) (va_nil))) (ve_int)) (ve_int)) (vw_and1 (vt_cmp op_gt ov_gt (ve_callB call_len cv_len T.z_len boot_len (va_cons (ve_var 1) (va_nil))) (ve_int))))) (vs_cons (vs_set sc_28.nd (vc (TD.d__law_ticks) hr tk (va_cons (ve_var 1) (va_nil)))) (vs_cons (vs_set sc_28.nd (ve_bin op_mod ov_mod (ve_callTy call_int1 cv_int T.z_int boot_int (va_cons (vc (TD.d__law_cell) hr tk (va_cons (ve_var 0) (va_cons (ve_int) (va_nil)))) (va_nil))) (ve_callB call_len cv_len T.z_len boot_len (va_cons (ve_var 3) (va_nil))))) (vs_cons (vs_set sc_28.nd (vc (TD.d__law_runs) hr tk (va_cons (ve_bin or_add ov_add (ve_slice (ve_var 3) (vo_some (ve_var 4)) (vo_none)) (ve_slice (ve_var 3) (vo_none) (vo_some (ve_var 4)))) (va_nil)))) (vs_one (vs_if (PW.pt (vw_and (vt_cmp (or_eq (room64 hr)) ov_eq (ve_bin op_mod ov_mod (ve_bin op_fdivS ov_div (ve_callTy call_int1 cv_int T.z_int boot_int (va_cons (vc (TD.d__law_cell) hr tk (va_cons (ve_var 0) (va_cons (ve_int) (va_nil)))) (va_nil))) (ve_int)) (ve_int)) (ve_int)) (vw_and1 (vt_cmp (or_ne (room64 hr)) ov_ne (ve_ix (ve_ix (ve_var 2) (ve_int)) (ve_int)) (ve_ix (ve_ix (ve_var 2) (ve_bin op_sub ov_sub (ve_callB call_len cv_len T.z_len boot_len (va_cons (ve_var 2) (va_nil))) (ve_int))) (ve_int)))))) (vs_one (vs_set sc_28.nd (ve_bin or_mul ov_mul (ve_var 2) (ve_int)))) (vs_nil)))))) (vs_nil)) (vs_cons (vs_set sc_28.nd (vc (TD.d__law_shift) hr tk (va_cons (ve_var 1) (va_cons (ve_var 2) (va_nil))))) (vs_cons (vs_set sc_28.nd (vc (TD.d_same_turned) hr tk (va_cons (ve_callTy call_list_of cv_list T.z_list boot_list (va_cons (ve_var 1) (va_nil))) (va_cons (ve_callTy call_list_of cv_list T.z_list boot_list (va_cons (ve_var 2) (va_nil))) (va_nil))))) (vs_cons (vs_if (PW.pt (vw_or (vt_cmp (or_ne (room64 hr)) ov_ne (ve_var 6) (ve_var 5)) (vw_or1 (PW.pt (vw_and (vt_cmp or_isnt ov_isnt (ve_var 6) (ve_non)) (vw_and1 (vt_not (vt_tru (vc (TD.d__law_whole) hr tk (va_cons (ve_var 6) (va_nil))))))))))) (vs_one (vs_ret (ve_bl))) (vs_nil)) (vs_cons (vs_set sc_28.nd (vc (TD.d_same_shown) hr tk (va_cons (ve_callTy call_list_of cv_list T.z_list boot_list (va_cons (ve_var 1) (va_nil))) (va_cons (ve_callTy call_list_of cv_list T.z_list boot_list (va_cons (ve_var 2) (va_nil))) (va_nil))))) (vs_cons (vs_if (PW.pt (vw_or (vt_not (vt_tru (ve_callB call_isi cv_isa T.z_isinstance boot_isinstance (va_cons (ve_var 7) (va_cons ((ve_ty T.z_bool boot_bool)) (va_nil)))))) (vw_or1 (vt_cmp (or_ne (room64 hr)) ov_ne (ve_var 7) (ve_cmp (or_eq (room64 hr)) ov_eq (ve_var 5) (ve_int)))))) (vs_one (vs_ret (ve_bl))) (vs_nil)) (vs_cons (vs_if (PW.pt (vw_and (vt_cmp op_gt ov_gt (ve_callB call_len cv_len T.z_len boot_len (va_cons (ve_var 1) (va_nil))) (ve_int)) (vw_and1 (vt_cmp (or_ne (room64 hr)) ov_ne (vc (TD.d_least_turn) hr tk (va_cons (ve_callTy call_list_of cv_list T.z_list boot_list (va_cons (ve_var 1) (va_nil))) (va_nil))) (vc (TD.d__law_turn) hr tk (va_cons (ve_var 1) (va_nil))))))) (vs_one (vs_ret (ve_bl))) (vs_nil)) (vs_cons (vs_if (PW.pt (vw_and (vt_cmp op_gt ov_gt (ve_callB call_len cv_len T.z_len boot_len (va_cons (ve_var 1) (va_nil))) (ve_int)) (vw_and1 (vt_cmp op_gt ov_gt (ve_callB call_len cv_len T.z_len boot_len (va_cons (ve_var 2) (va_nil))) (ve_int))))) (vs_one (vs_ret (ve_cmp (or_eq (room64 hr)) ov_eq (ve_cmp (or_eq (room64 hr)) ov_eq (vc (TD.d_least_turn) hr tk (va_cons (ve_var 1) (va_nil))) (vc (TD.d_least_turn) hr tk (va_cons (ve_var 2) (va_nil)))) (ve_cmp or_isnt ov_isnt (ve_var 5) (ve_non))))) (vs_nil)) (vs_one (vs_ret (ve_bl))))))))))))
theorem all_ok (T : Tx P w K mg base cl) (X : Txt K mg) : ∀ d, TxD P w K mg base cl d := by
  intro d
  induction d with
  | zero => exact ⟨nun X.g_gcd_of bd_0, nun X.g_is_phase bd_1, nun X.g_first_fault bd_2, nun X.g_has_one_end bd_3, nun X.g_check_loose bd_4, nun X.g_whole_time bd_5, nun X.g_place_at bd_6, nun X.g_shortest bd_7, nun X.g_joined bd_8, nun X.g_same_time bd_9, nun X.g_same_shown bd_10, nun X.g_changes_of bd_11, nun X.g_turn_between bd_12, nun X.g_same_turned bd_13, nun X.g_turns_of bd_14, nun X.g_coloured bd_15, nun X.g_least_of_turns bd_16, nun X.g_least_turn bd_17, nun X.g__law_cell bd_18, nun X.g__law_draw bd_19, nun X.g__law_whole bd_20, nun X.g__law_phases bd_21, nun X.g__law_ticks bd_22, nun X.g__law_runs bd_23, nun X.g__law_least bd_24, nun X.g__law_order bd_25, nun X.g__law_shift bd_26, nun X.g__law_turn bd_27, nun X.g_law bd_28⟩
  | succ d ih => exact ⟨dun X.g_gcd_of sc_0 bd_0 fun _ _ _ _ _ _ _ _ hr => ok_0 T ih hr, dun X.g_is_phase sc_1 bd_1 fun _ _ _ _ _ _ _ _ hr => ok_1 T ih hr, dun X.g_first_fault sc_2 bd_2 fun _ _ _ _ _ _ _ _ hr => ok_2 T ih hr, dun X.g_has_one_end sc_3 bd_3 fun _ _ _ _ _ _ _ _ hr => ok_3 T ih hr, dun X.g_check_loose sc_4 bd_4 fun _ _ _ _ _ _ _ _ hr => ok_4 T ih hr, dun X.g_whole_time sc_5 bd_5 fun _ _ _ _ _ _ _ _ hr => ok_5 T ih hr, dun X.g_place_at sc_6 bd_6 fun _ _ _ _ _ _ _ _ hr => ok_6 T ih hr, dun X.g_shortest sc_7 bd_7 fun _ _ _ _ _ _ _ _ hr => ok_7 T ih hr, dun X.g_joined sc_8 bd_8 fun _ _ _ _ _ _ _ _ hr => ok_8 T ih hr, dun X.g_same_time sc_9 bd_9 fun _ _ _ _ _ _ _ _ hr => ok_9 T ih hr, dun X.g_same_shown sc_10 bd_10 fun _ _ _ _ _ _ _ _ hr => ok_10 T ih hr, dun X.g_changes_of sc_11 bd_11 fun _ _ _ _ _ _ _ _ hr => ok_11 T ih hr, dun X.g_turn_between sc_12 bd_12 fun _ _ _ _ _ _ _ _ hr => ok_12 T ih hr, dun X.g_same_turned sc_13 bd_13 fun _ _ _ _ _ _ _ _ hr => ok_13 T ih hr, dun X.g_turns_of sc_14 bd_14 fun _ _ _ _ _ _ _ _ hr => ok_14 T ih hr, dun X.g_coloured sc_15 bd_15 fun _ _ _ _ _ _ _ _ hr => ok_15 T ih hr, dun X.g_least_of_turns sc_16 bd_16 fun _ _ _ _ _ _ _ _ hr => ok_16 T ih hr, dun X.g_least_turn sc_17 bd_17 fun _ _ _ _ _ _ _ _ hr => ok_17 T ih hr, dun X.g__law_cell sc_18 bd_18 fun _ _ _ _ _ _ _ _ hr => ok_18 T ih hr, dun X.g__law_draw sc_19 bd_19 fun _ _ _ _ _ _ _ _ hr => ok_19 T ih hr, dun X.g__law_whole sc_20 bd_20 fun _ _ _ _ _ _ _ _ hr => ok_20 T ih hr, dun X.g__law_phases sc_21 bd_21 fun _ _ _ _ _ _ _ _ hr => ok_21 T ih hr, dun X.g__law_ticks sc_22 bd_22 fun _ _ _ _ _ _ _ _ hr => ok_22 T ih hr, dun X.g__law_runs sc_23 bd_23 fun _ _ _ _ _ _ _ _ hr => ok_23 T ih hr, dun X.g__law_least sc_24 bd_24 fun _ _ _ _ _ _ _ _ hr => ok_24 T ih hr, dun X.g__law_order sc_25 bd_25 fun _ _ _ _ _ _ _ _ hr => ok_25 T ih hr, dun X.g__law_shift sc_26 bd_26 fun _ _ _ _ _ _ _ _ hr => ok_26 T ih hr, dun X.g__law_turn sc_27 bd_27 fun _ _ _ _ _ _ _ _ hr => ok_27 T ih hr, dun X.g_law sc_28 bd_28 fun _ _ _ _ _ _ _ _ hr => ok_28 T ih hr⟩
end
def sI_BadPhase : Stmt := inClass (topS 2) 0
theorem scI_BadPhase : ExScope ["self", "number"] (defScope sI_BadPhase) := exSc_of (by decide +kernel) (by rfl)
theorem ini_BadPhase {w : World} {K : PySem.W.Frag} {mg : Str → Option Value} {base : Heap} {C fI cc cda : Addr} (T : ExC K PySem.Challenge.pw_lightbook_k03_characters_are_compared C fI cc cda "BadPhase.__init__" sI_BadPhase) (hmg : mg "super" = none) (n_label : PySem.W.findIn K (.ref C) "label" = some none) (n_number : PySem.W.findIn K (.ref C) "number" = some none)
    {fd : FuncData} {oc : Value} {od : Option Addr} {osl : Array (Option Value)} (lk : K.lookup fI = some ⟨oc, od, .func fd, osl⟩) : FnOk PySem.Challenge.pw_lightbook_k03_characters_are_compared w K mg base (L2.CX PySem.Challenge.pw_lightbook_k03_characters_are_compared w) 1 fI fd ["self", "number"] (spI C 1 sp_BadPhase) :=
  init_ok (k := 0) T scI_BadPhase rfl rfl rfl rfl hmg rfl (fun _ => rfl) (fun _ => ⟨_, rfl⟩) (fun _ => rfl) (fun p hp => by
    simp only [sp_BadPhase, List.mem_cons, List.not_mem_nil, or_false] at hp
    rcases hp with rfl | rfl
    · exact n_label
    · exact n_number) (by decide) (fun X hN hS => ⟨_, pe_str, fun _ _ _ _ => rfl⟩) (fun X hN hS => pss_cons (ps_ost (pe_var (i := 0) (by rw [hN]; rfl) (by rw [hS]; exact .inl rfl) (by decide) (by decide)) (pe_str)) (pss_cons (ps_ost (pe_var (i := 0) (by rw [hN]; rfl) (by rw [hS]; exact .inl rfl) (by decide) (by decide)) (pe_var (i := 1) (by rw [hN]; rfl) (by rw [hS]; exact .inl rfl) (by decide) (by decide))) (pss_nil))) lk
theorem all_mk {w : World} {K : PySem.W.Frag} {h : Heap} {mg : Str → Option Value} {fa C_BadPhase f_BadPhase cc_BadPhase cda_BadPhase  : Addr} (X : K.In h) (G : h.Ns mainGlobals mg) (hfa : mg "law" = some (.ref fa))
    (a_BadPhase : PySem.W.nsIn K mainGlobals "BadPhase" = some (some (.ref C_BadPhase)))
    (T_BadPhase : ExC K PySem.Challenge.pw_lightbook_k03_characters_are_compared C_BadPhase f_BadPhase cc_BadPhase cda_BadPhase "BadPhase.__init__" sI_BadPhase)
    (n_BadPhase_label : PySem.W.findIn K (.ref C_BadPhase) "label" = some none)
    (n_BadPhase_number : PySem.W.findIn K (.ref C_BadPhase) "number" = some none)
    (z_abs : mg "abs" = none)
    (z_bool : mg "bool" = none)
    (z_int : mg "int" = none)
    (z_isinstance : mg "isinstance" = none)
    (z_len : mg "len" = none)
    (z_list : mg "list" = none)
    (z_min : mg "min" = none)
    (z_range : mg "range" = none)
    (z_set : mg "set" = none)
    (z_sorted : mg "sorted" = none)
    (z_sum : mg "sum" = none)
    (z_super : mg "super" = none)
    (z_tuple : mg "tuple" = none)
    (c_COLOURS' : ∀ cl, GlobV K cl mg "COLOURS" c_COLOURS)
    (c_MOST_PHASES' : ∀ cl, GlobV K cl mg "MOST_PHASES" c_MOST_PHASES)
    (c_MOST_TIME' : ∀ cl, GlobV K cl mg "MOST_TIME" c_MOST_TIME)
    (ct_COLOURS' : GlobT K mg "COLOURS" ct_COLOURS)
    (g_gcd_of : ∃ f fd, Fun K "gcd_of" "gcd_of" (topS 4) f fd ∧ mg "gcd_of" = some (.ref f))
    (g_is_phase : ∃ f fd, Fun K "is_phase" "is_phase" (topS 9) f fd ∧ mg "is_phase" = some (.ref f))
    (g_first_fault : ∃ f fd, Fun K "first_fault" "first_fault" (topS 10) f fd ∧ mg "first_fault" = some (.ref f))
    (g_has_one_end : ∃ f fd, Fun K "has_one_end" "has_one_end" (topS 11) f fd ∧ mg "has_one_end" = some (.ref f))
    (g_check_loose : ∃ f fd, Fun K "check_loose" "check_loose" (topS 12) f fd ∧ mg "check_loose" = some (.ref f))
    (g_whole_time : ∃ f fd, Fun K "whole_time" "whole_time" (topS 13) f fd ∧ mg "whole_time" = some (.ref f))
    (g_place_at : ∃ f fd, Fun K "place_at" "place_at" (topS 14) f fd ∧ mg "place_at" = some (.ref f))
    (g_shortest : ∃ f fd, Fun K "shortest" "shortest" (topS 15) f fd ∧ mg "shortest" = some (.ref f))
    (g_joined : ∃ f fd, Fun K "joined" "joined" (topS 16) f fd ∧ mg "joined" = some (.ref f))
    (g_same_time : ∃ f fd, Fun K "same_time" "same_time" (topS 17) f fd ∧ mg "same_time" = some (.ref f))
    (g_same_shown : ∃ f fd, Fun K "same_shown" "same_shown" (topS 18) f fd ∧ mg "same_shown" = some (.ref f))
    (g_changes_of : ∃ f fd, Fun K "changes_of" "changes_of" (topS 19) f fd ∧ mg "changes_of" = some (.ref f))
    (g_turn_between : ∃ f fd, Fun K "turn_between" "turn_between" (topS 20) f fd ∧ mg "turn_between" = some (.ref f))
    (g_same_turned : ∃ f fd, Fun K "same_turned" "same_turned" (topS 21) f fd ∧ mg "same_turned" = some (.ref f))
    (g_turns_of : ∃ f fd, Fun K "turns_of" "turns_of" (topS 22) f fd ∧ mg "turns_of" = some (.ref f))
    (g_coloured : ∃ f fd, Fun K "coloured" "coloured" (topS 23) f fd ∧ mg "coloured" = some (.ref f))
    (g_least_of_turns : ∃ f fd, Fun K "least_of_turns" "least_of_turns" (topS 24) f fd ∧ mg "least_of_turns" = some (.ref f))
    (g_least_turn : ∃ f fd, Fun K "least_turn" "least_turn" (topS 25) f fd ∧ mg "least_turn" = some (.ref f))
    (g__law_cell : ∃ f fd, Fun K "_law_cell" "_law_cell" (topS 27) f fd ∧ mg "_law_cell" = some (.ref f))
    (g__law_draw : ∃ f fd, Fun K "_law_draw" "_law_draw" (topS 28) f fd ∧ mg "_law_draw" = some (.ref f))
    (g__law_whole : ∃ f fd, Fun K "_law_whole" "_law_whole" (topS 29) f fd ∧ mg "_law_whole" = some (.ref f))
    (g__law_phases : ∃ f fd, Fun K "_law_phases" "_law_phases" (topS 30) f fd ∧ mg "_law_phases" = some (.ref f))
    (g__law_ticks : ∃ f fd, Fun K "_law_ticks" "_law_ticks" (topS 31) f fd ∧ mg "_law_ticks" = some (.ref f))
    (g__law_runs : ∃ f fd, Fun K "_law_runs" "_law_runs" (topS 32) f fd ∧ mg "_law_runs" = some (.ref f))
    (g__law_least : ∃ f fd, Fun K "_law_least" "_law_least" (topS 33) f fd ∧ mg "_law_least" = some (.ref f))
    (g__law_order : ∃ f fd, Fun K "_law_order" "_law_order" (topS 34) f fd ∧ mg "_law_order" = some (.ref f))
    (g__law_shift : ∃ f fd, Fun K "_law_shift" "_law_shift" (topS 35) f fd ∧ mg "_law_shift" = some (.ref f))
    (g__law_turn : ∃ f fd, Fun K "_law_turn" "_law_turn" (topS 36) f fd ∧ mg "_law_turn" = some (.ref f))
    (g_law : ∃ f fd, Fun K "law" "law" (topS 37) f fd ∧ mg "law" = some (.ref f))
    (hp : ∀ ns : List Int, ns.length ≤ 63 → (∀ z ∈ ns, Builtin.Int.intBits z ≤ 1048576) → FT (23 + 1) 411 [.src (ns.map .int)] = .ok (.bl true))
    : ∃ fd : FuncData, (∀ (s : Shared) (v : Value), BindsTo s fd ⟨[v], []⟩ [("script", v)]) ∧ ∀ base : Heap, K.In base → base.Ns mainGlobals mg → FnOk PySem.Challenge.pw_lightbook_k03_characters_are_compared w K mg base (L2.CX PySem.Challenge.pw_lightbook_k03_characters_are_compared w) 26 fa fd ["script"] (VL.spLaw K) := by
  let cl : Nat → Addr := fun k => ([0, 0, 0, 0, C_BadPhase, 0, 0, 0, 0, 0, 0, 0, 0, 0, 0, 0, 0, 0, 0, 0, 0, 0, 0, 0, 0, 0, 0] : List Addr).getD k 0
  have X0 : Txt K mg := ⟨g_gcd_of, g_is_phase, g_first_fault, g_has_one_end, g_check_loose, g_whole_time, g_place_at, g_shortest, g_joined, g_same_time, g_same_shown, g_changes_of, g_turn_between, g_same_turned, g_turns_of, g_coloured, g_least_of_turns, g_least_turn, g__law_cell, g__law_draw, g__law_whole, g__law_phases, g__law_ticks, g__law_runs, g__law_least, g__law_order, g__law_shift, g__law_turn, g_law⟩
  obtain ⟨f0, fd0, F0, hm0⟩ := g_law
  have e0 := hfa.symm.trans hm0
  cases e0
  have F1 := F0
  obtain ⟨oc, od, kV, doc, pm, an, cdv, ct, osl, rfl, lk, hcd⟩ := F1.ex
  refine ⟨PySem.W.fnOf "law" "law" (defArgs (topS 37)) (defBody (topS 37)) (defScope (topS 37)) .none kV doc pm an cdv ct, fun s v => .of_eq rfl, fun base _ _ => ?_⟩
  have T : Tx PySem.Challenge.pw_lightbook_k03_characters_are_compared w K mg base cl :=
    { z_abs := z_abs,
      z_bool := z_bool,
      z_int := z_int,
      z_isinstance := z_isinstance,
      z_len := z_len,
      z_list := z_list,
      z_min := z_min,
      z_range := z_range,
      z_set := z_set,
      z_sorted := z_sorted,
      z_sum := z_sum,
      z_tuple := z_tuple,
      c_COLOURS := c_COLOURS' cl,
      c_MOST_PHASES := c_MOST_PHASES' cl,
      c_MOST_TIME := c_MOST_TIME' cl,
      ct_COLOURS := ct_COLOURS',
      x_BadPhase := exc_at (ps := ["self", "number"]) X G a_BadPhase T_BadPhase (fun lk => ini_BadPhase T_BadPhase z_super n_BadPhase_label n_BadPhase_number lk) (fun _ _ _ _ _ us hl => match us, hl with | [_, _], _ => rfl) rfl }
  have TD := all_ok T X0 23
  exact (def_ok (k := 25) F0 sc_28 fun _ _ _ _ _ _ _ hr => ok_28 T TD hr).imp (law_imp (g := fun us => FT (23 + 1) 411 us) hp)
end L03
namespace PH
open PySem PySem.Spec PyProof.Rows L2 VL PF WY
variable {F : Nat → List PV → R PV}
theorem gl_runs2 {row : List Str} (h1 : row ≠ []) (h2 : ∀ c ∈ row, c ∈ COL) (h3 : row.length ≤ 6000) : Adj (runs row) ∧ Pos (runs row) ∧ ticks (runs row) = row ∧ runs row ≠ [] ∧ wh (runs row) = (row.length : Int) ∧ ∀ p ∈ runs row, isPh p = true := by
  obtain ⟨ha, hp, ht⟩ := runs_any row
  have ne : runs row ≠ [] := fun z => by rw [z] at ht; exact h1 ht.symm
  have hl := ticks_len hp
  rw [ht] at hl
  refine ⟨ha, hp, ht, ne, hl.symm, fun p hm => ?_⟩
  have h5 : p.2 ≤ wh (runs row) := by
    obtain ⟨l1, l2, e⟩ := List.append_of_mem hm
    rw [e, wh_app]
    have p1 : Pos l1 := fun q hq => hp q (by rw [e]; simp [hq])
    have p2 : Pos l2 := fun q hq => hp q (by rw [e]; simp [hq])
    have := wh_nn p1
    have := wh_nn p2
    have e3 : wh (p :: l2) = p.2 + wh l2 := by show ((p :: l2).map (·.2)).sum = _; rw [List.map_cons, List.sum_cons]
    omega
  have h6 := hp p hm
  have h7 : p.1 ∈ COL := h2 _ (by
    rw [← ht]
    unfold ticks
    rw [List.mem_flatMap]
    exact ⟨p, hm, by rw [List.mem_replicate]; exact ⟨by omega, rfl⟩⟩)
  have hw : (row.length : Int) = wh (runs row) := hl
  unfold isPh
  simp only [Bool.and_eq_true, decide_eq_true_eq]
  exact ⟨h7, h6, by omega⟩
/-- a row of two colours makes a character, maybe with ends of one colour -/
theorem loose_runs {row : List Str} {x y : Int} (hxy : cy row x ≠ cy row y) (h2 : ∀ c ∈ row, c ∈ COL) (h3 : row.length ≤ 6000) : Loose (runs row) ∧ 1 < (runs row).length := by
  have h1 : row ≠ [] := fun z => by subst z; exact hxy rfl
  obtain ⟨ha, hp, ht, ne, hw, ok⟩ := gl_runs2 h1 h2 h3
  have l0 := List.length_pos_iff.mpr ne
  have l1 : 1 < (runs row).length := by
    rcases Nat.lt_or_ge 1 (runs row).length with z | z
    · exact z
    · exfalso
      have := single_const hp (by omega) x y
      rw [ht] at this
      exact hxy this
  refine ⟨?_, l1⟩
  by_cases c : lastC (runs row) = hd (runs row)
  · obtain ⟨p, r, e⟩ : ∃ p r, runs row = p :: r := by
      cases e : runs row with
      | nil => exact absurd e ne
      | cons p r => exact ⟨p, r, rfl⟩
    have hr : r ≠ [] := fun z => by rw [e, z] at l1; simp at l1
    obtain ⟨mid, q, e2⟩ : ∃ mid q, r = mid ++ [q] := ⟨r.dropLast, r.getLast hr, (List.dropLast_concat_getLast hr).symm⟩
    subst e2
    rw [e] at c ha hp hw ok ⊢
    have eq : p.1 = q.1 := by
      unfold lastC hd at c
      rw [← List.cons_append, List.getLast?_concat] at c
      simpa using c.symm
    refine .ends (fun z => ?_) eq ha ok ?_
    · subst z
      exact ha.1 eq
    · have e3 : wh (p :: (mid ++ [q])) = p.2 + (wh mid + q.2) := by
        show ((p :: (mid ++ [q])).map (·.2)).sum = _
        rw [List.map_cons, List.sum_cons, List.map_append, List.sum_append]
        simp
      have := wh_nn (ps := mid) (fun z hz => hp z (by simp [hz]))
      omega
  · exact .gl ⟨ne, ok, ha, fun _ => c⟩
theorem shift_iff {A B : List Str} (hA : A ≠ []) (hB : B ≠ []) : (shiftO A B).isSome = true ↔ Shift A B := by
  constructor
  · intro h
    obtain ⟨t, e⟩ := Option.isSome_iff_exists.mp h
    unfold shiftO at e
    rw [List.find?_range_eq_some] at e
    exact ⟨0, t, Option.isNone_iff_eq_none.mp e.1⟩
  · intro h
    obtain ⟨t, _, e⟩ := shift_0 hA hB h
    cases e2 : shiftO A B with
    | some _ => rfl
    | none =>
      exfalso
      unfold shiftO at e2
      have lB := List.length_pos_iff.mpr hB
      have m0 := Int.emod_nonneg t (show (B.length : Int) ≠ 0 by omega)
      have m1 := Int.emod_lt_of_pos t (show (0 : Int) < B.length by omega)
      have := List.find?_eq_none.mp e2 (t % (B.length : Int)).toNat (List.mem_range.mpr (by omega))
      apply this
      rw [Int.toNat_of_nonneg m0]
      unfold shB
      have e3 := same_mod (A := A) (B := B) 0 t
      rw [Int.zero_emod] at e3
      rw [e3, e]
      rfl
theorem shift_zero {A B : List Str} (hB : B ≠ []) : decide (shiftO A B = some 0) = shB A B 0 := by
  unfold shiftO
  have lB := List.length_pos_iff.mpr hB
  cases h : shB A B 0 with
  | true =>
    rw [decide_eq_true_eq, List.find?_range_eq_some]
    exact ⟨h, List.mem_range.mpr lB, fun j hj => absurd hj (Nat.not_lt_zero _)⟩
  | false =>
    rw [decide_eq_false_iff_not, List.find?_range_eq_some]
    intro z
    have := z.1
    simp only [Int.natCast_zero] at this
    rw [h] at this
    cases this
theorem eqB_oint (o : Option Nat) : eqB (oint o) (oint o) = some true := by cases o <;> simp [oint]
theorem eqB_oint0 (o : Option Nat) : eqB (oint o) (.int 0) = some (decide (o = some 0)) := by
  cases o with
  | none => rfl
  | some n =>
    show some (decide ((n : Int) = 0)) = _
    congr 1
    by_cases h : n = 0 <;> simp [h]
end PH
namespace L03
open PySem PySem.Spec PyProof.Rows L2 VL PF PH WY
variable {F : Nat → List PV → R PV}
structure Kn (ps qs : List Ph) : Prop where
  g1 : GL ps
  g2 : Loose qs
  g3 : ps.length = 1 → GL qs
  l1 : ps.length ≤ 60
  l2 : qs.length ≤ 60
  w1 : wh ps ≤ 200
  w2 : wh qs ≤ 200
def S_same_shown (g : List PV → R PV) : Prop := ∀ ps qs, Kn ps qs → g [encPs ps, encPs qs] = .ok (.bl (shB (ticks ps) (ticks qs) 0))
theorem sp_same_shown (h237 : S_loose (F 237)) (h539 : S_same (F 539)) : S_same_shown fun us => outR (b_same_shown F (startE 2 us)) := by
  intro ps qs K
  have e1 := h237 ps (good_iff.mpr K.g1).toChain K.l1
  have e2 := h237 qs K.g2.chain K.l2
  have e3 := h539 ps qs 0 0 K.g1.pos K.g1.ne K.g2.pos K.g2.ne (by have := K.l1; omega) (by have := K.l2; omega) (by have := K.w1; omega) (by have := K.w2; omega)
  unfold shB
  cases h : sameS (ticks ps) (ticks qs) 0 0 with
  | none => rw [h] at e3; simp -implicitDefEqProofs [b_same_shown, e1, e2, e3, oint]
  | some n => rw [h] at e3; simp -implicitDefEqProofs [b_same_shown, e1, e2, e3, oint]
def S_same_turned (g : List PV → R PV) : Prop := ∀ ps qs, Kn ps qs → g [encPs ps, encPs qs] = .ok (oint (shiftO (ticks ps) (ticks qs)))
theorem sp_same_turned (h237 : S_loose (F 237)) (h634 : S_turnM (F 634)) : S_same_turned fun us => outR (b_same_turned F (startE 2 us)) := by
  intro ps qs K
  have e1 := h237 ps (good_iff.mpr K.g1).toChain K.l1
  have e2 := h237 qs K.g2.chain K.l2
  have e3 := h634 ps qs K.g1 K.g2 K.g3 (by have := K.l1; omega) (by have := K.l2; omega) (by have := K.w1; omega) (by have := K.w2; omega)
  simp -implicitDefEqProofs [b_same_turned, e1, e2, listP_ps, e3]
def S_least_turn (g : List PV → R PV) : Prop := ∀ ps : List Ph, Loose ps → 1 < (joinE ps).length → ps.length ≤ 60 → ∃ r, IsLeast (shortP (joinE ps)) r ∧ g [encPs ps] = .ok (encPs r)
theorem sp_least_turn (h237 : S_loose (F 237)) (h436 : S_leastT (F 436)) : S_least_turn fun us => outR (b_least_turn F (startE 1 us)) := by
  intro ps g h1 hl
  obtain ⟨r, hr, e⟩ := h436 ps g h1 (by omega)
  exact ⟨r, hr, by simp -implicitDefEqProofs [b_least_turn, h237 ps g.chain hl, listP_ps, e]⟩
theorem sp_lwhole (F : Nat → List PV → R PV) (i : Int) : outR (b__law_whole F (startE 1 [.int i])) = .ok (.bl true) := by
  simp -implicitDefEqProofs [b__law_whole]
theorem oks_of {S r : List Ph} (g : GS S) (h : IsLeast S r) : ∀ p ∈ r, okS p.1 = true := by
  obtain ⟨a, _, rfl⟩ := h.ex
  intro p hp
  exact (good_iff.mpr g.g).toChain.oks p (turn_mem hp)
theorem e8 (h439 : S_least_turn (F 439)) (h162 : S_lturn (F 162)) {S : PV} {ps qs : List Ph} (K : Kn ps qs) (x3 x4 x6 x7 : Sl) :
    b_law_v13_t8 F [.fz S, .fz (encPs ps), .fz (encPs qs), x3, x4, .fz (oint (shiftO (ticks ps) (ticks qs))), x6, x7] = .ret (.bl true) := by
  have l1 := encPs_len ps
  have l2 := encPs_len qs
  by_cases c1 : 1 < ps.length
  · have c1' : (1 : Int) < (ps.length : Int) := by omega
    have gp : GS ps := ⟨K.g1, c1⟩
    have jp := joinE_gl K.g1
    obtain ⟨r, hr, e1⟩ := h439 ps (.gl K.g1) (by rw [jp]; exact c1) K.l1
    rw [jp] at hr
    obtain ⟨r', hr', e2⟩ := h162 ps gp K.l1 (by have := K.w1; omega)
    have er := least_uniq (short_gs gp).1 hr' hr
    subst er
    have o1 := oks_of (short_gs gp).1 hr
    have q1 : eqB (encPs r') (encPs r') = some true := by rw [eqB_ps o1 o1]; simp
    by_cases c2 : 1 < qs.length
    · have c2' : (1 : Int) < (qs.length : Int) := by omega
      have jl : 1 < (joinE qs).length := by
        cases K.g2 with
        | gl g => rw [joinE_gl g]; exact c2
        | ends hm e _ _ _ => rw [joinE_ends e]; have := List.length_pos_iff.mpr hm; simp; omega
      obtain ⟨u, hu, e3⟩ := h439 qs K.g2 jl K.l2
      have gq : GS (joinE qs) := ⟨joinE_good K.g2, jl⟩
      have o2 := oks_of (short_gs gq).1 hu
      have q2 := eqB_ps o1 o2
      have hi := least_iff gp gq hr hu
      have hA := ticks_ne K.g1.pos K.g1.ne
      have hB := ticks_ne K.g2.pos K.g2.ne
      have hJ := ticks_ne gq.g.pos gq.g.ne
      have hS : Shift (ticks ps) (ticks (joinE qs)) ↔ Shift (ticks ps) (ticks qs) := by
        obtain ⟨s, hs⟩ := joinE_cy K.g2
        constructor
        · rintro ⟨a, b, h⟩
          refine ⟨a, b + s, ?_⟩
          rw [same_none hA hB]
          rw [same_none hA hJ] at h
          intro k
          rw [h k, hs]
          congr 1
          omega
        · rintro ⟨a, b, h⟩
          refine ⟨a, b - s, ?_⟩
          rw [same_none hA hJ]
          rw [same_none hA hB] at h
          intro k
          rw [h k, hs]
          congr 1
          omega
      have hx : (r' = u) ↔ (shiftO (ticks ps) (ticks qs)).isSome = true := by rw [hi, hS, shift_iff hA hB]
      cases ho : shiftO (ticks ps) (ticks qs) with
      | none =>
        rw [ho] at hx
        have ne : ¬ r' = u := fun z => by have := hx.mp z; cases this
        simp -implicitDefEqProofs [b_law_v13_t8, b_law_v13_t9, b_law_v13_t10, l1, l2, c1', c2', listP_ps, e1, e2, q1, e3, q2, ne, oint]
      | some t =>
        rw [ho] at hx
        have eq : r' = u := hx.mpr rfl
        subst eq
        simp -implicitDefEqProofs [b_law_v13_t8, b_law_v13_t9, b_law_v13_t10, l1, l2, c1', c2', listP_ps, e1, e2, q1, e3, q2, oint]
    · have c2' : ¬ (1 : Int) < (qs.length : Int) := by omega
      simp -implicitDefEqProofs [b_law_v13_t8, b_law_v13_t9, b_law_v13_t10, l1, l2, c1', c2', listP_ps, e1, e2, q1]
  · have c1' : ¬ (1 : Int) < (ps.length : Int) := by omega
    simp -implicitDefEqProofs [b_law_v13_t8, b_law_v13_t9, b_law_v13_t10, l1, c1']
theorem e3 (h103 : S_lshift (F 103)) (h540 : S_same_turned (F 540)) (h538 : S_same_shown (F 538)) (h167 : ∀ i : Int, F 167 [.int i] = .ok (.bl true)) (h439 : S_least_turn (F 439)) (h162 : S_lturn (F 162)) {S : PV} {ps qs : List Ph} (K : Kn ps qs) (x3 x4 x5 x6 x7 : Sl) :
    b_law_v13_t3 F [.fz S, .fz (encPs ps), .fz (encPs qs), x3, x4, x5, x6, x7] = .ret (.bl true) := by
  have k := fun x6 x7 => e8 h439 h162 (S := S) K x3 x4 x6 x7
  have e1 := h103 ps qs K.g1.pos K.g1.ne K.g2.pos K.g2.ne (by have := K.w1; omega) (by have := K.w2; omega)
  have e2 := h540 ps qs K
  have e3 := h538 ps qs K
  have hB := ticks_ne K.g2.pos K.g2.ne
  have hz := shift_zero (A := ticks ps) hB
  have q0 := eqB_oint0 (shiftO (ticks ps) (ticks qs))
  rw [hz] at q0
  have q1 := eqB_oint (shiftO (ticks ps) (ticks qs))
  have q2 : ∀ b : Bool, eqB (.bl b) (.bl b) = some true := fun b => by simp
  cases ho : shiftO (ticks ps) (ticks qs) with
  | none =>
    rw [ho] at k e1 e2 q0 q1
    have in0 : isntP (oint none) .non = some (.bl false) := rfl
    generalize oint none = O at *
    simp -implicitDefEqProofs [b_law_v13_t3, b_law_v13_t4, b_law_v13_t5, b_law_v13_t6, b_law_v13_t7, e1, e2, e3, listP_ps, q0, q1, in0, k]
  | some t =>
    rw [ho] at k e1 e2 q0 q1
    have in0 : isntP (oint (some t)) .non = some (.bl true) := rfl
    have hw : F 167 [oint (some t)] = .ok (.bl true) := h167 _
    generalize oint (some t) = O at *
    simp -implicitDefEqProofs [b_law_v13_t3, b_law_v13_t4, b_law_v13_t5, b_law_v13_t6, b_law_v13_t7, e1, e2, e3, listP_ps, q0, q1, in0, hw, k]
end L03
namespace L03
open PySem PySem.Spec PyProof.Rows L2 VL PF PH WY
theorem wh_bd3 : ∀ {W : List Ph} {b : Int}, (∀ p ∈ W, p.2 ≤ b) → wh W ≤ b * W.length
  | [], b, _ => by simp [wh]
  | p :: r, b, h => by
    have h1 := h p List.mem_cons_self
    have h2 := wh_bd3 (W := r) (b := b) fun q hq => h q (List.mem_cons_of_mem _ hq)
    show ((p :: r).map (·.2)).sum ≤ _
    rw [List.map_cons, List.sum_cons, List.length_cons]
    show p.2 + wh r ≤ _
    rw [show ((r.length + 1 : Nat) : Int) = (r.length : Int) + 1 from rfl, Int.mul_add]
    omega
theorem law_eval {F : Nat → List PV → R PV} (h13 : S_cell (F 13)) (h80 : S_phases (F 80)) (h94 : S_runs (F 94)) (h128 : S_ticks (F 128)) (h103 : S_lshift (F 103)) (h540 : S_same_turned (F 540)) (h538 : S_same_shown (F 538)) (h167 : ∀ i : Int, F 167 [.int i] = .ok (.bl true)) (h439 : S_least_turn (F 439)) (h162 : S_lturn (F 162)) (ns : List Int) :
    outR (b_law_v13 F (startE 8 [.src (ns.map .int)])) = .ok (.bl true) := by
  have c0 := h13 ns 0
  have c1 := h13 ns 1
  have c2 := h13 ns 2
  have c3 := h13 ns 3
  simp only [Int.natCast_zero, Int.natCast_one, Int.cast_ofNat_Int] at c0 c1 c2 c3
  obtain ⟨ps, ep, gp, lp, tp⟩ := h80 (ab (cell ns 0)) 6 6 (by decide) (by decide) (by decide) (by decide)
  obtain ⟨qs, eq, gq, lq, tq⟩ := h80 (ab (cell ns 1)) 6 6 (by decide) (by decide) (by decide) (by decide)
  have g1 := good_iff.mp gp
  have g2 := good_iff.mp gq
  have w1 := wh_bd3 tp
  have w2 := wh_bd3 tq
  have E := fun (qs : List Ph) (K : Kn ps qs) => e3 h103 h540 h538 h167 h439 h162 K (S := .src (ns.map .int))
  have K0 : Kn ps qs := ⟨g1, .gl g2, fun _ => g2, by omega, by omega, by omega, by omega⟩
  have eL := encPs_len ps
  by_cases v1 : cell ns 2 % 2 = 1
  · by_cases v2 : 1 < ps.length
    · have v2' : (1 : Int) < (ps.length : Int) := by omega
      have e128 := h128 ps g1.pos (by omega)
      have lR : ((ticks ps).length : Int) = wh ps := ticks_len g1.pos
      have hA := ticks_ne g1.pos g1.ne
      have pA := List.length_pos_iff.mpr hA
      have pA' : 0 < (ticks ps).length := pA
      have bA : ((ticks ps).length : Int) < bigI := bigI_of (by omega)
      have m0 := Int.emod_nonneg (cell ns 3) (show ((ticks ps).length : Int) ≠ 0 by omega)
      have m1 := Int.emod_lt_of_pos (cell ns 3) (show (0 : Int) < (ticks ps).length by omega)
      obtain ⟨a, ha⟩ := Int.eq_ofNat_of_zero_le m0
      have hal : a < (ticks ps).length := by omega
      obtain ⟨r1, r2⟩ := (rot_map (A := ticks ps) (k := a) (Nat.le_of_lt hal)), trivial
      -- the row begun elsewhere
      have hrow : ∀ t : Int, cy ((ticks ps).drop a ++ (ticks ps).take a) t = cy (ticks ps) (t + (a : Int)) := fun t => by
        have := rot_cy ((ticks ps).take a) ((ticks ps).drop a) t
        rw [List.take_append_drop] at this
        rw [← this]
        congr 2
        rw [List.length_take]
        omega
      obtain ⟨x, y, hxy⟩ := two_cols g1 v2
      have hxy2 : cy ((ticks ps).drop a ++ (ticks ps).take a) (x - a) ≠ cy ((ticks ps).drop a ++ (ticks ps).take a) (y - a) := by
        rw [hrow, hrow, show x - (a : Int) + a = x by omega, show y - (a : Int) + a = y by omega]
        exact hxy
      have lrow : ((ticks ps).drop a ++ (ticks ps).take a).length = (ticks ps).length := by simp; omega
      have hcol : ∀ c ∈ (ticks ps).drop a ++ (ticks ps).take a, c ∈ COL := fun c hc => by
        have hc2 : c ∈ ticks ps := by
          rcases List.mem_append.mp hc with h | h
          · exact List.mem_of_mem_drop h
          · exact List.mem_of_mem_take h
        obtain ⟨p, hp, rfl⟩ := ticks_mem hc2
        exact (isPh_pos (g1.ok p hp)).2.2
      obtain ⟨gl, two⟩ := loose_runs hxy2 hcol (by omega)
      have whr := (gl_runs2 (row := (ticks ps).drop a ++ (ticks ps).take a) (fun z => by rw [z] at lrow; simp at lrow; omega) hcol (by omega)).2.2.2.2.1
      have lpr : (runs ((ticks ps).drop a ++ (ticks ps).take a)).length ≤ (ticks ps).length := by rw [← lrow]; exact runs_len _
      have lps : (runs ((ticks ps).drop a ++ (ticks ps).take a)).length ≤ ps.length + 1 := by
        have tt := turned_ticks (ps := ps) (t := (a : Int)) g1.pos g1.ne (by omega)
        rw [Int.emod_eq_of_lt (by omega) (by omega), Int.toNat_natCast] at tt
        rcases turned_made (t := (a : Int)) g1 v2 with ⟨gt, lt⟩ | ⟨p, q, mid, et, _, _, ad, po, _, lm⟩
        · rw [← tt, runs_ticks gt.adj gt.pos]; omega
        · rw [et] at tt
          rw [← tt, runs_ticks ad po]
          simp
          omega
      have b2 : (2 : Int) < bigI := bigI_of (by decide)
      have e94 := h94 ((ticks ps).drop a ++ (ticks ps).take a) (by omega)
      have sA := slP_fromR (ticks ps) a
      have sB := slP_toR (ticks ps) a
      have adR : addP (encR ((ticks ps).drop a)) (encR ((ticks ps).take a)) = some (encR ((ticks ps).drop a ++ (ticks ps).take a)) := addP_R (by simp; omega)
      generalize hQ : runs ((ticks ps).drop a ++ (ticks ps).take a) = Q at *
      generalize (ticks ps).drop a ++ (ticks ps).take a = row at *
      generalize ticks ps = A at *
      have KQ : Kn ps Q := ⟨g1, gl, fun z => by omega, by omega, by omega, by omega, by omega⟩
      have i0 := encPs_first gl.ne
      have iL : ixP (encPs Q) (.int ((Q.length : Int) - 1)) = some (encP (ph Q (Q.length - 1))) := by
        have := encPs_ix (ps := Q) (i := Q.length - 1) (by omega)
        rwa [show ((Q.length - 1 : Nat) : Int) = (Q.length : Int) - 1 by omega] at this
      have lQ := encPs_len Q
      by_cases v3 : cell ns 2 / 2 % 2 = 1
      · by_cases v4 : (ph Q 0).1 = (ph Q (Q.length - 1)).1
        · have k := E _ KQ
          simp -implicitDefEqProofs [b_law_v13, b_law_v13_t1, b_law_v13_t2, c0, c1, c2, c3, absP_ab, -absP_i, ep, eq, eL, v1, v2', e128, lenP_R, pA', bA, b2, ha, sA, sB, adR, e94, v3, i0, iL, lQ, encP_ix0, v4, k]
        · have gQ : GL Q := by
            cases gl with
            | gl g => exact g
            | ends hm e adj ok s => exact absurd (by rw [ph_ends.1, ph_ends.2]; exact e) v4
          have g4 := rep_good gQ two (k := 2) (by decide)
          have l4 : (List.replicate 2 Q).flatten.length = 2 * Q.length := rep_len _ _
          have w4 : wh (List.replicate 2 Q).flatten = 2 * wh Q := by
            show wh (Q ++ (Q ++ [])) = _
            rw [List.append_nil, wh_app]
            omega
          have K4 : Kn ps (List.replicate 2 Q).flatten := ⟨g1, .gl g4, fun z => by omega, by omega, by omega, by omega, by omega⟩
          have k := E _ K4
          have mp : mulP (encPs Q) (.int 2) = some (encPs (List.replicate 2 Q).flatten) := mulP_ps (k := 2) (by decide) (by omega)
          generalize (List.replicate 2 Q).flatten = Q2 at *
          simp -implicitDefEqProofs [b_law_v13, b_law_v13_t1, b_law_v13_t2, c0, c1, c2, c3, absP_ab, -absP_i, ep, eq, eL, v1, v2', e128, lenP_R, pA', bA, b2, ha, sA, sB, adR, e94, v3, i0, iL, lQ, encP_ix0, v4, mp, k]
      · have k := E _ KQ
        simp -implicitDefEqProofs [b_law_v13, b_law_v13_t1, b_law_v13_t2, c0, c1, c2, c3, absP_ab, -absP_i, ep, eq, eL, v1, v2', e128, lenP_R, pA', bA, b2, ha, sA, sB, adR, e94, v3, k]
    · have v2' : ¬ (1 : Int) < (ps.length : Int) := by omega
      have k := E _ K0
      simp -implicitDefEqProofs [b_law_v13, b_law_v13_t1, b_law_v13_t2, c0, c1, c2, absP_ab, -absP_i, ep, eq, eL, v1, v2', k]
  · have k := E _ K0
    simp -implicitDefEqProofs [b_law_v13, b_law_v13_t1, b_law_v13_t2, c0, c1, c2, absP_ab, -absP_i, ep, eq, eL, v1, k]
variable (d : Nat)
theorem t371 : S_is_phase (FT (d + 1) 371) := sp_is_phase (FT d)
theorem t312 : S_first_fault (FT (d + 2) 312) := sp_first_fault (F := FT (d + 1)) (t371 d)
theorem t237 : S_loose (FT (d + 3) 237) := sp_loose (F := FT (d + 2)) (t312 d)
theorem t650 : S_whole (FT (d + 1) 650) := sp_whole (FT d)
theorem t502 : S_place (FT (d + 2) 502) := sp_place (F := FT (d + 1)) (t650 d)
theorem t384 : S_joinM (FT (d + 1) 384) := sp_joinM (FT d)
theorem t563 : S_shortest (FT (d + 1) 563) := sp_shortest (FT d)
theorem t13 : S_cell (FT (d + 1) 13) := sp_cell (FT d)
theorem t22 : S_draw (FT (d + 1) 22) := sp_draw (FT d)
theorem t80 : S_phases (FT (d + 2) 80) := sp_phases (F := FT (d + 1)) (t22 d)
theorem t128 : S_ticks (FT (d + 1) 128) := sp_ticks (FT d)
theorem t94 : S_runs (FT (d + 1) 94) := sp_runs (FT d)
theorem t51 : S_leastL (FT (d + 2) 51) := sp_leastL (F := FT (d + 1)) (t128 d)
theorem t330 : S_gcd (FT (d + 1) 330) := sp_gcd (FT d)
theorem t539 : S_same (FT (d + 3) 539) := sp_same (F := FT (d + 2)) (t650 (d + 1)) (t330 (d + 1)) (t502 d)
theorem t217 : S_changes (FT (d + 1) 217) := sp_changes (FT d)
theorem t634 : S_turnM (FT (d + 4) 634) := sp_turnM (F := FT (d + 3)) (t384 (d + 2)) (t650 (d + 2)) (t217 (d + 2)) (t539 d)
theorem t637 : S_turnsL (FT (d + 1) 637) := sp_turnsL (FT d)
theorem t271 : S_coloured (FT (d + 1) 271) := sp_coloured (FT d)
theorem t76 : S_coloured (FT (d + 1) 76) := sp_lorder (FT d)
theorem t436 : S_leastT (FT (d + 2) 436) := sp_leastT (F := FT (d + 1)) (t384 d) (t563 d) (t637 d) (t271 d)
theorem t439 : S_least_turn (FT (d + 4) 439) := sp_least_turn (F := FT (d + 3)) (t237 d) (t436 (d + 1))
theorem t103 : S_lshift (FT (d + 2) 103) := sp_lshift (F := FT (d + 1)) (t128 d)
theorem t162 : S_lturn (FT (d + 3) 162) := sp_lturn (F := FT (d + 2)) (t128 (d + 1)) (t51 d) (t94 (d + 1)) (t76 (d + 1))
theorem t538 : S_same_shown (FT (d + 4) 538) := sp_same_shown (F := FT (d + 3)) (t237 d) (t539 d)
theorem t540 : S_same_turned (FT (d + 5) 540) := sp_same_turned (F := FT (d + 4)) (t237 (d + 1)) (t634 d)
theorem t167 (i : Int) : FT (d + 1) 167 [.int i] = .ok (.bl true) := sp_lwhole (FT d) i
theorem law_pure (ns : List Int) (h1 : ns.length ≤ 63) (h2 : ∀ z ∈ ns, Builtin.Int.intBits z ≤ 1048576) : FT (23 + 1) 411 [.src (ns.map .int)] = .ok (.bl true) :=
  law_eval (F := FT 23) (t13 22) (t80 21) (t94 22) (t128 22) (t103 21) (t540 18) (t538 19) (t167 22) (t439 19) (t162 20) ns
end L03
open PySem PySem.W PyProof.Rows in
set_option maxRecDepth 100000 in
set_option maxHeartbeats 0 in
theorem PySem.Challenge.cw_lightbook_k03_characters_are_compared_holds : PySem.Challenge.rw_lightbook_k03_characters_are_compared.Holds := by
  w_on; o_law; k_head; (case hw => w_witness2)
  k_fill
  refine L2.walk_ofB (l := PySem.Challenge.rw_lightbook_k03_characters_are_compared) (n := 63) (k := 26) (x := "script") (CX := fun w => L2.CX PySem.Challenge.rw_lightbook_k03_characters_are_compared.prog w) (sp := fun w => VL.spLaw _) rfl (by decide) rfl ⟨rfl, by decide, by decide⟩ (fun w h Y => PySem.W.kIn_of Y) ?F (fun _ _ a ns hl hb _ hS => ⟨a, ns, rfl, hS, hl, hb, fun _ => rfl⟩) VL.cx_no
  case F =>
    intro w mg fa h KX G hmg
    refine' L03.all_mk KX G hmg ?a_BadPhase ?T_BadPhase ?n_BadPhase_label ?n_BadPhase_number ?z_abs ?z_bool ?z_int ?z_isinstance ?z_len ?z_list ?z_min ?z_range ?z_set ?z_sorted ?z_sum ?z_super ?z_tuple ?c_COLOURSv ?c_MOST_PHASESv ?c_MOST_TIMEv ?ct_COLOURSv ?g_gcd_of ?g_is_phase ?g_first_fault ?g_has_one_end ?g_check_loose ?g_whole_time ?g_place_at ?g_shortest ?g_joined ?g_same_time ?g_same_shown ?g_changes_of ?g_turn_between ?g_same_turned ?g_turns_of ?g_coloured ?g_least_of_turns ?g_least_turn ?g__law_cell ?g__law_draw ?g__law_whole ?g__law_phases ?g__law_ticks ?g__law_runs ?g__law_least ?g__law_order ?g__law_shift ?g__law_turn ?g_law L03.law_pure
    (case a_BadPhase => k_is)
    (case T_BadPhase => (refine' VL.exc_facts ?q2_lC ?q2_hbm ?q2_sa ?q2_exC ?q2_tyC ?q2_kC ?q2_ini ?q2_tyI ?q2_lI ?q2_code ?q2_lF ?q2_h2 ?q2_hfile ?q2_lc ?q2_sup ?q2_self ?q2_ve ?q2_noS ?q2_third; (case q2_lC => k_is); (case q2_sa => k_is); (case q2_exC => k_is); (case q2_tyC => k_is); (case q2_kC => k_is); (case q2_ini => k_is); (case q2_tyI => k_is); (case q2_lI => k_is); (case q2_code => k_is); (case q2_lF => k_is); (case q2_h2 => rfl); (case q2_hfile => rfl); (case q2_hbm => rfl); (case q2_lc => k_is); (case q2_sup => (refine' VL.sup_of ?q2_lC2 ?q2_lL ?q2_e ?q2_f; (case q2_lC2 => k_is); (case q2_e => rfl); (case q2_lL => k_is); (case q2_f => k_is))); (case q2_self => k_is); (case q2_ve => k_is); (case q2_noS => k_is); (case q2_third => k_is)))
    (case n_BadPhase_label => k_is)
    (case n_BadPhase_number => k_is)
    (case z_abs => (refine' VL.none_at KX G ?q5_a; k_is))
    (case z_bool => (refine' VL.none_at KX G ?q6_a; k_is))
    (case z_int => (refine' VL.none_at KX G ?q7_a; k_is))
    (case z_isinstance => (refine' VL.none_at KX G ?q8_a; k_is))
    (case z_len => (refine' VL.none_at KX G ?q9_a; k_is))
    (case z_list => (refine' VL.none_at KX G ?q10_a; k_is))
    (case z_min => (refine' VL.none_at KX G ?q11_a; k_is))
    (case z_range => (refine' VL.none_at KX G ?q12_a; k_is))
    (case z_set => (refine' VL.none_at KX G ?q13_a; k_is))
    (case z_sorted => (refine' VL.none_at KX G ?q14_a; k_is))
    (case z_sum => (refine' VL.none_at KX G ?q15_a; k_is))
    (case z_super => (refine' VL.none_at KX G ?q16_a; k_is))
    (case z_tuple => (refine' VL.none_at KX G ?q17_a; k_is))
    (case c_COLOURSv => (intro cl; refine' VL.val_at KX G ?q19_a ?q19_w; (case q19_a => k_is); (case q19_w => (refine' VL.Wr.tup ?q18_l rfl ?q18_r (by decide); (case q18_l => k_is); (case q18_r => exact .cons (.str _ _) (.cons (.str _ _) (.cons (.str _ _) (.cons (.str _ _) (.cons (.str _ _) (.nil))))))))))
    (case c_MOST_PHASESv => (intro cl; refine' VL.val_at KX G ?q20_a ?q20_w; (case q20_a => k_is); (case q20_w => exact .int _ _)))
    (case c_MOST_TIMEv => (intro cl; refine' VL.val_at KX G ?q21_a ?q21_w; (case q21_a => k_is); (case q21_w => exact .int _ _)))
    (case ct_COLOURSv => (refine' VL.tupT_at KX G ?q22_a ?q22_l ?q22_r (by decide); (case q22_a => k_is); (case q22_l => k_is); (case q22_r => exact .cons (.str _ _) (.cons (.str _ _) (.cons (.str _ _) (.cons (.str _ _) (.cons (.str _ _) (.nil))))))))
    (case g_gcd_of => (refine' VL.fun_at KX G ?q23_a ?q23_l ?q23_c ?q23_k; (case q23_a => k_is); (case q23_l => k_is); (case q23_c => k_is); (case q23_k => k_is)))
    (case g_is_phase => (refine' VL.fun_at KX G ?q24_a ?q24_l ?q24_c ?q24_k; (case q24_a => k_is); (case q24_l => k_is); (case q24_c => k_is); (case q24_k => k_is)))
    (case g_first_fault => (refine' VL.fun_at KX G ?q25_a ?q25_l ?q25_c ?q25_k; (case q25_a => k_is); (case q25_l => k_is); (case q25_c => k_is); (case q25_k => k_is)))
    (case g_has_one_end => (refine' VL.fun_at KX G ?q26_a ?q26_l ?q26_c ?q26_k; (case q26_a => k_is); (case q26_l => k_is); (case q26_c => k_is); (case q26_k => k_is)))
    (case g_check_loose => (refine' VL.fun_at KX G ?q27_a ?q27_l ?q27_c ?q27_k; (case q27_a => k_is); (case q27_l => k_is); (case q27_c => k_is); (case q27_k => k_is)))
    (case g_whole_time => (refine' VL.fun_at KX G ?q28_a ?q28_l ?q28_c ?q28_k; (case q28_a => k_is); (case q28_l => k_is); (case q28_c => k_is); (case q28_k => k_is)))
    (case g_place_at => (refine' VL.fun_at KX G ?q29_a ?q29_l ?q29_c ?q29_k; (case q29_a => k_is); (case q29_l => k_is); (case q29_c => k_is); (case q29_k => k_is)))
    (case g_shortest => (refine' VL.fun_at KX G ?q30_a ?q30_l ?q30_c ?q30_k; (case q30_a => k_is); (case q30_l => k_is); (case q30_c => k_is); (case q30_k => k_is)))
    (case g_joined => (refine' VL.fun_at KX G ?q31_a ?q31_l ?q31_c ?q31_k; (case q31_a => k_is); (case q31_l => k_is); (case q31_c => k_is); (case q31_k => k_is)))
    (case g_same_time => (refine' VL.fun_at KX G ?q32_a ?q32_l ?q32_c ?q32_k; (case q32_a => k_is); (case q32_l => k_is); (case q32_c => k_is); (case q32_k => k_is)))
    (case g_same_shown => (refine' VL.fun_at KX G ?q33_a ?q33_l ?q33_c ?q33_k; (case q33_a => k_is); (case q33_l => k_is); (case q33_c => k_is); (case q33_k => k_is)))
    (case g_changes_of => (refine' VL.fun_at KX G ?q34_a ?q34_l ?q34_c ?q34_k; (case q34_a => k_is); (case q34_l => k_is); (case q34_c => k_is); (case q34_k => k_is)))
    (case g_turn_between => (refine' VL.fun_at KX G ?q35_a ?q35_l ?q35_c ?q35_k; (case q35_a => k_is); (case q35_l => k_is); (case q35_c => k_is); (case q35_k => k_is)))
    (case g_same_turned => (refine' VL.fun_at KX G ?q36_a ?q36_l ?q36_c ?q36_k; (case q36_a => k_is); (case q36_l => k_is); (case q36_c => k_is); (case q36_k => k_is)))
    (case g_turns_of => (refine' VL.fun_at KX G ?q37_a ?q37_l ?q37_c ?q37_k; (case q37_a => k_is); (case q37_l => k_is); (case q37_c => k_is); (case q37_k => k_is)))
    (case g_coloured => (refine' VL.fun_at KX G ?q38_a ?q38_l ?q38_c ?q38_k; (case q38_a => k_is); (case q38_l => k_is); (case q38_c => k_is); (case q38_k => k_is)))
    (case g_least_of_turns => (refine' VL.fun_at KX G ?q39_a ?q39_l ?q39_c ?q39_k; (case q39_a => k_is); (case q39_l => k_is); (case q39_c => k_is); (case q39_k => k_is)))
    (case g_least_turn => (refine' VL.fun_at KX G ?q40_a ?q40_l ?q40_c ?q40_k; (case q40_a => k_is); (case q40_l => k_is); (case q40_c => k_is); (case q40_k => k_is)))
    (case g__law_cell => (refine' VL.fun_at KX G ?q41_a ?q41_l ?q41_c ?q41_k; (case q41_a => k_is); (case q41_l => k_is); (case q41_c => k_is); (case q41_k => k_is)))
    (case g__law_draw => (refine' VL.fun_at KX G ?q42_a ?q42_l ?q42_c ?q42_k; (case q42_a => k_is); (case q42_l => k_is); (case q42_c => k_is); (case q42_k => k_is)))
    (case g__law_whole => (refine' VL.fun_at KX G ?q43_a ?q43_l ?q43_c ?q43_k; (case q43_a => k_is); (case q43_l => k_is); (case q43_c => k_is); (case q43_k => k_is)))
    (case g__law_phases => (refine' VL.fun_at KX G ?q44_a ?q44_l ?q44_c ?q44_k; (case q44_a => k_is); (case q44_l => k_is); (case q44_c => k_is); (case q44_k => k_is)))
    (case g__law_ticks => (refine' VL.fun_at KX G ?q45_a ?q45_l ?q45_c ?q45_k; (case q45_a => k_is); (case q45_l => k_is); (case q45_c => k_is); (case q45_k => k_is)))
    (case g__law_runs => (refine' VL.fun_at KX G ?q46_a ?q46_l ?q46_c ?q46_k; (case q46_a => k_is); (case q46_l => k_is); (case q46_c => k_is); (case q46_k => k_is)))
    (case g__law_least => (refine' VL.fun_at KX G ?q47_a ?q47_l ?q47_c ?q47_k; (case q47_a => k_is); (case q47_l => k_is); (case q47_c => k_is); (case q47_k => k_is)))
    (case g__law_order => (refine' VL.fun_at KX G ?q48_a ?q48_l ?q48_c ?q48_k; (case q48_a => k_is); (case q48_l => k_is); (case q48_c => k_is); (case q48_k => k_is)))
    (case g__law_shift => (refine' VL.fun_at KX G ?q49_a ?q49_l ?q49_c ?q49_k; (case q49_a => k_is); (case q49_l => k_is); (case q49_c => k_is); (case q49_k => k_is)))
    (case g__law_turn => (refine' VL.fun_at KX G ?q50_a ?q50_l ?q50_c ?q50_k; (case q50_a => k_is); (case q50_l => k_is); (case q50_c => k_is); (case q50_k => k_is)))
    (case g_law => (refine' VL.fun_at KX G ?q51_a ?q51_l ?q51_c ?q51_k; (case q51_a => k_is); (case q51_l => k_is); (case q51_c => k_is); (case q51_k => k_is)))
