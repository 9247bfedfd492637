import PyProof.Rows.All
import PySem.Challenge.RW_lightbook_k24_fixes
import Wide.All
import OpenK.AllK
import Wide.FinOn
import HandS.ForMost
import HandS.Exc
import HandS.TryMany
import HandS.ExcInit
import HandS.ExcField
import HandS.Wide
import HandS.IsInst
import HandS.Deep
import HandS.EndBits
import HandS.CallSlots
import HandS.TupAny
import HandS.TupLe
import HandS.Strs
import HandS.More
import HandS.Flow
import HandS.SortInts
import KE.KExcSuper
import HandS.WordsExc
set_option Elab.async false
set_option linter.all false
set_option maxRecDepth 100000
set_option maxHeartbeats 8000000
set_option autoImplicit false
/-! A value layer: pure values, and how the heap bears them. -/
namespace VL
open PySem PySem.Spec PyProof.Rows L2

/-- a pure value -/
inductive PV where
  | non | bl (b : Bool) | int (i : Int) | str (x : Str)
  | tup (xs : List PV) | lst (xs : List PV)
  /-- a list that is only read (the script) -/
  | src (xs : List PV)
  | dct (kvs : List (Key × PV))
  | obj (c : Nat) (fs : List (Str × PV))
  /-- a built-in class -/
  | ty (n : String)
  deriving Inhabited

/-- what comes of a computation: a value, an own exception (class, fields), or no word -/
inductive R (α : Type) where
  | ok (a : α) | exc (c : Nat) (fs : List (Str × PV)) | stuck
@[inline] def R.bind {α β : Type} (x : R α) (f : α → R β) : R β := match x with
  | .ok a => f a
  | .exc c fs => .exc c fs
  | .stuck => .stuck
theorem bind_ok {α β : Type} (a : α) (f : α → R β) : (R.ok a).bind f = f a := rfl
theorem bind_exc {α β : Type} (c fs) (f : α → R β) : (R.exc c fs).bind f = .exc c fs := rfl
theorem bind_stuck {α β : Type} (f : α → R β) : (R.stuck : R α).bind f = .stuck := rfl

/-- a part of a heap -/
def Sub (Hs H : Hp) : Prop := ∀ a o, Hs a = some o → H a = some o
theorem Sub.refl (H : Hp) : Sub H H := fun _ _ h => h
theorem Sub.trans {H H1 H2 : Hp} (a : Sub H H1) (b : Sub H1 H2) : Sub H H2 := fun c o h => b c o (a c o h)
theorem Sub.none {Hs H : Hp} (s : Sub Hs H) {a : Addr} (h : H a = .none) : Hs a = .none := by
  cases q : Hs a with
  | none => rfl
  | some o => rw [s a o q] at h; cases h
theorem Sub.upd {Hs H : Hp} {a : Addr} {o : HO} (s : Sub Hs H) (n : Hs a = .none) : Sub Hs (upd H a o) := fun b u h => by
  rw [upd_ne (ne_of_none h n)]; exact s b u h
theorem Sub.upd2 {Hs H : Hp} {a : Addr} {o : HO} (s : Sub Hs H) : Sub (L2.upd Hs a o) (L2.upd H a o) := fun b u h => by
  by_cases e : b = a
  · subst e; rw [upd_same] at h ⊢; exact h
  · rw [upd_ne e] at h ⊢; exact s b u h
theorem Sub.new {H : Hp} {a : Addr} {o : HO} (n : H a = .none) : Sub H (L2.upd H a o) := (Sub.refl H).upd n
theorem Sub.seqL {K : PySem.W.Frag} {H H' : Hp} {a : Addr} {xs : List V} (e : Sub H H') (h : SqL K H a xs) : SqL K H' a xs := by
  rcases h with (h | ⟨o, h⟩) | h
  · exact .inl (.inl (e _ _ h))
  · exact .inl (.inr ⟨o, e _ _ h⟩)
  · exact .inr h
theorem Sub.seqT {K : PySem.W.Frag} {H H' : Hp} {a : Addr} {xs : List V} (e : Sub H H') (h : SqT K H a xs) : SqT K H' a xs := by
  rcases h with (h | ⟨o, h⟩) | h
  · exact .inl (.inl (e _ _ h))
  · exact .inl (.inr ⟨o, e _ _ h⟩)
  · exact .inr h

section
variable (K : PySem.W.Frag) (cl : Nat → Addr) (H : Hp)
mutual
/-- the heap bears the value at x -/
inductive Rp : V → PV → Prop
  | non : Rp .non .non
  | bl (b : Bool) : Rp (.bl b) (.bl b)
  | int (i : Int) : Rp (.int i) (.int i)
  | str (x : Str) : Rp (.str x) (.str x)
  | tup {a : Addr} {vs : List V} {xs : List PV} : SqT K H a vs → RpA vs xs → Rp (.ref a) (.tup xs)
  | lst {a : Addr} {vs : List V} {xs : List PV} : H a = some (.lst vs) → RpA vs xs → Rp (.ref a) (.lst xs)
  | src {a : Addr} {vs : List V} {xs : List PV} : SqL K H a vs → RpA vs xs → Rp (.ref a) (.src xs)
  | dct {a : Addr} {vs : List (Key × V)} {xs : List (Key × PV)} : H a = some (.dK vs) → RpK vs xs → Rp (.ref a) (.dct xs)
  | ty (n : String) : Rp (.ty n) (.ty n)
  | obj {a dx : Addr} {c : Nat} {vs : List (Str × V)} {xs : List (Str × PV)} : H a = some (.ins (cl c) dx vs) → RpF vs xs → Rp (.ref a) (.obj c xs)
inductive RpA : List V → List PV → Prop
  | nil : RpA [] []
  | cons {v : V} {vs : List V} {x : PV} {xs : List PV} : Rp v x → RpA vs xs → RpA (v :: vs) (x :: xs)
inductive RpK : List (Key × V) → List (Key × PV) → Prop
  | nil : RpK [] []
  | cons {k : Key} {v : V} {vs : List (Key × V)} {x : PV} {xs : List (Key × PV)} : Rp v x → RpK vs xs → RpK ((k, v) :: vs) ((k, x) :: xs)
inductive RpF : List (Str × V) → List (Str × PV) → Prop
  | nil : RpF [] []
  | cons {k : Str} {v : V} {vs : List (Str × V)} {x : PV} {xs : List (Str × PV)} : Rp v x → RpF vs xs → RpF ((k, v) :: vs) ((k, x) :: xs)
end
end

section
variable {K : PySem.W.Frag} {cl : Nat → Addr} {H H' : Hp}
mutual
theorem Rp.mono (s : Sub H H') : ∀ {v : V} {x : PV}, Rp K cl H v x → Rp K cl H' v x
  | _, _, .non => .non
  | _, _, .bl b => .bl b
  | _, _, .int b => .int b
  | _, _, .str b => .str b
  | _, _, .tup h r => .tup (s.seqT h) (r.mono s)
  | _, _, .lst h r => .lst (s _ _ h) (r.mono s)
  | _, _, .src h r => .src (s.seqL h) (r.mono s)
  | _, _, .dct h r => .dct (s _ _ h) (r.mono s)
  | _, _, .obj h r => .obj (s _ _ h) (r.mono s)
  | _, _, .ty n => .ty n
theorem RpA.mono (s : Sub H H') : ∀ {v : List V} {x : List PV}, RpA K cl H v x → RpA K cl H' v x
  | _, _, .nil => .nil
  | _, _, .cons h r => .cons (h.mono s) (r.mono s)
theorem RpK.mono (s : Sub H H') : ∀ {v : List (Key × V)} {x : List (Key × PV)}, RpK K cl H v x → RpK K cl H' v x
  | _, _, .nil => .nil
  | _, _, .cons h r => .cons (h.mono s) (r.mono s)
theorem RpF.mono (s : Sub H H') : ∀ {v : List (Str × V)} {x : List (Str × PV)}, RpF K cl H v x → RpF K cl H' v x
  | _, _, .nil => .nil
  | _, _, .cons h r => .cons (h.mono s) (r.mono s)
end
theorem RpA.length : ∀ {v : List V} {x : List PV}, RpA K cl H v x → v.length = x.length
  | _, _, .nil => rfl
  | _, _, .cons _ r => congrArg (· + 1) r.length
theorem RpA.get : ∀ {vs : List V} {xs : List PV} {i : Nat} {x : PV}, RpA K cl H vs xs → xs[i]? = some x → ∃ v, vs[i]? = some v ∧ Rp K cl H v x
  | _, _, _, _, .nil, e => by simp at e
  | _, _, 0, _, .cons r _, e => by simp at e; subst e; exact ⟨_, rfl, r⟩
  | _, _, i + 1, x, .cons _ t, e => by
    obtain ⟨u, h1, h2⟩ := RpA.get (i := i) (x := x) t (by simpa using e)
    exact ⟨u, by simpa using h1, h2⟩
theorem RpA.get' : ∀ {vs : List V} {xs : List PV} {i : Nat} {v : V}, RpA K cl H vs xs → vs[i]? = some v → ∃ x, xs[i]? = some x ∧ Rp K cl H v x
  | _, _, _, _, .nil, e => by simp at e
  | _, _, 0, _, .cons r _, e => by simp at e; subst e; exact ⟨_, rfl, r⟩
  | _, _, i + 1, x, .cons _ t, e => by
    obtain ⟨u, h1, h2⟩ := RpA.get' (i := i) (v := x) t (by simpa using e)
    exact ⟨u, by simpa using h1, h2⟩
theorem RpA.append : ∀ {vs ws : List V} {xs ys : List PV}, RpA K cl H vs xs → RpA K cl H ws ys → RpA K cl H (vs ++ ws) (xs ++ ys)
  | _, _, _, _, .nil, s => s
  | _, _, _, _, .cons r t, s => .cons r (t.append s)
theorem RpA.take : ∀ {vs : List V} {xs : List PV} (n : Nat), RpA K cl H vs xs → RpA K cl H (vs.take n) (xs.take n)
  | _, _, 0, _ => .nil
  | _, _, _ + 1, .nil => .nil
  | _, _, n + 1, .cons r t => .cons r (t.take n)
theorem RpA.drop : ∀ {vs : List V} {xs : List PV} (n : Nat), RpA K cl H vs xs → RpA K cl H (vs.drop n) (xs.drop n)
  | _, _, 0, r => r
  | _, _, _ + 1, .nil => .nil
  | _, _, n + 1, .cons _ t => t.drop n
theorem RpA.set {v : V} {x : PV} (r : Rp K cl H v x) : ∀ {vs : List V} {xs : List PV} (i : Nat), RpA K cl H vs xs → RpA K cl H (vs.set i v) (xs.set i x)
  | _, _, _, .nil => .nil
  | _, _, 0, .cons _ t => .cons r t
  | _, _, i + 1, .cons q t => .cons q (RpA.set r i t)
theorem RpA.rep {vs : List V} {xs : List PV} (r : RpA K cl H vs xs) : ∀ n : Nat, RpA K cl H (List.replicate n vs).flatten (List.replicate n xs).flatten
  | 0 => .nil
  | n + 1 => by
    rw [List.replicate_succ, List.replicate_succ, List.flatten_cons, List.flatten_cons]
    exact r.append (r.rep n)
theorem RpF.lookup {f : Str} {x : PV} : ∀ {vs : List (Str × V)} {xs : List (Str × PV)}, RpF K cl H vs xs → xs.lookup f = some x → ∃ v, vs.lookup f = some v ∧ Rp K cl H v x
  | _, _, .nil, h => by cases h
  | _, _, .cons (k := k) (v := v) (x := y) r t, h => by
    by_cases e : f = k
    · subst e
      simp only [List.lookup, beq_self_eq_true] at h ⊢
      cases h
      exact ⟨v, rfl, r⟩
    · have q : (f == k) = false := by simpa using e
      simp only [List.lookup, q] at h ⊢
      exact t.lookup h
theorem RpF.lookup_none {f : Str} : ∀ {vs : List (Str × V)} {xs : List (Str × PV)}, RpF K cl H vs xs → xs.lookup f = none → vs.lookup f = none
  | _, _, .nil, h => rfl
  | _, _, .cons (k := k) (v := v) (x := y) r t, h => by
    by_cases e : f = k
    · subst e
      simp only [List.lookup, beq_self_eq_true] at h
      cases h
    · have q : (f == k) = false := by simpa using e
      simp only [List.lookup, q] at h ⊢
      exact t.lookup_none h
end

/-! ### data for == -/
mutual
def PV.data : PV → Option PyData
  | .non => some .none
  | .bl b => some (.bool b)
  | .int i => some (.int i)
  | .str x => some (.str x)
  | .tup xs => (PV.datas xs).map .tuple
  | .lst xs => (PV.datas xs).map .list
  | .src xs => (PV.datas xs).map .list
  | .dct _ => none
  | .obj _ _ => none
  | .ty _ => none
def PV.datas : List PV → Option (List PyData)
  | [] => some []
  | x :: xs => (PV.data x).bind fun d => (PV.datas xs).map (d :: ·)
end
section
variable {K : PySem.W.Frag} {cl : Nat → Addr} {H : Hp}
mutual
theorem Rp.dp : ∀ {v : V} {x : PV} {d : PyData}, Rp K cl H v x → x.data = some d → Dp K H v d
  | _, _, _, .non, e => by simp only [PV.data, Option.some.injEq] at e; subst e; exact .non
  | _, _, _, .bl b, e => by simp only [PV.data, Option.some.injEq] at e; subst e; exact .bl b
  | _, _, _, .int b, e => by simp only [PV.data, Option.some.injEq] at e; subst e; exact .int b
  | _, _, _, .str b, e => by simp only [PV.data, Option.some.injEq] at e; subst e; exact .str b
  | _, _, _, .tup h r, e => by
    simp only [PV.data, Option.map_eq_some_iff] at e
    obtain ⟨ds, e1, rfl⟩ := e
    exact .tup h (r.dp e1)
  | _, _, _, .lst h r, e => by
    simp only [PV.data, Option.map_eq_some_iff] at e
    obtain ⟨ds, e1, rfl⟩ := e
    exact .lst (.of h) (r.dp e1)
  | _, _, _, .src h r, e => by
    simp only [PV.data, Option.map_eq_some_iff] at e
    obtain ⟨ds, e1, rfl⟩ := e
    exact .lst h (r.dp e1)
  | _, _, _, .dct h r, e => by simp only [PV.data] at e; cases e
  | _, _, _, .obj h r, e => by simp only [PV.data] at e; cases e
  | _, _, _, .ty n, e => by simp only [PV.data] at e; cases e
theorem RpA.dp : ∀ {v : List V} {x : List PV} {d : List PyData}, RpA K cl H v x → PV.datas x = some d → DpAll K H v d
  | _, _, _, .nil, e => by simp only [PV.datas, Option.some.injEq] at e; subst e; exact .nil
  | _, _, _, .cons h r, e => by
    simp only [PV.datas, Option.bind_eq_some_iff, Option.map_eq_some_iff] at e
    obtain ⟨d, e1, ds, e2, rfl⟩ := e
    exact .cons (h.dp e1) (r.dp e2)
end
end
end VL
namespace VL
open PySem PySem.Spec PyProof.Rows L2
abbrev St := L2.St

/-- what an expression sees: the values by slot -/
abbrev Ev := List (Option PV)
abbrev Ex := Ev → R PV

/-- from (Hs, H) to (Hs', H'): all stands as it stood, and nothing that stood is frozen anew -/
structure Ext (Hs H Hs' H' : Hp) : Prop where
  fs : Sub Hs Hs'
  sub : Sub Hs' H'
  same : Sub H H'
  nw : ∀ a, H a ≠ none → Hs a = none → Hs' a = none
theorem Ext.refl {Hs H : Hp} (s : Sub Hs H) : Ext Hs H Hs H := ⟨Sub.refl _, s, Sub.refl _, fun _ _ h => h⟩
theorem Ext.trans {Hs H Hs1 H1 Hs2 H2 : Hp} (a : Ext Hs H Hs1 H1) (b : Ext Hs1 H1 Hs2 H2) : Ext Hs H Hs2 H2 :=
  ⟨a.fs.trans b.fs, b.sub, a.same.trans b.same, fun c h n => b.nw c (fun z => by
    cases q : H c with
    | none => exact h q
    | some o => rw [a.same c o q] at z; cases z) (a.nw c h n)⟩
theorem Ext.new {Hs H : Hp} {p : Addr} {o : HO} (s : Sub Hs H) (n : H p = none) : Ext Hs H (upd Hs p o) (upd H p o) :=
  ⟨Sub.new (s.none n), s.upd2, Sub.new n, fun a h z => by rw [upd_ne (fun e => h (by rw [e]; exact n))]; exact z⟩
/-- a new object that is not frozen -/
theorem Ext.newO {Hs H : Hp} {p : Addr} {o : HO} (s : Sub Hs H) (n : H p = none) : Ext Hs H Hs (upd H p o) := ⟨Sub.refl _, s.upd (s.none n), Sub.new n, fun _ _ z => z⟩

section
variable (K : PySem.W.Frag) (cl : Nat → Addr)
structure PEnv (Hs H : Hp) (σ : St) (ρ : Ev) : Prop where
  sub : Sub Hs H
  len : ρ.length = σ.length
  at_ : ∀ (i : Nat) (v : PV), ρ[i]? = some (some v) → ∃ x, σ[i]? = some (some x) ∧ Rp K cl Hs x v
variable {α β : Type} (rel : Hp → β → α → Prop) (W : WX)
/-- what is wanted of an outcome -/
def GP (Hs H : Hp) (σ : St) (r : R α) (Q : β → Hp → Prop) : Prop := match r with
  | .ok v => ∀ x Hs' H', Ext Hs H Hs' H' → rel Hs' x v → Q x H'
  | .exc c fs => ∀ d fvs Hs' H', Ext Hs H Hs' H' → Hs' d = some (.xd fvs) → RpF K cl Hs' fvs fs → W (.ref (cl c)) (some d) σ H'
  | .stuck => False
def gv (f : Ev → R α) : St → Hp → (β → Hp → Prop) → Prop := fun σ H Q => ∃ Hs ρ, PEnv K cl Hs H σ ρ ∧ GP K cl rel W Hs H σ (f ρ) Q
abbrev tv (f : Ex) : TE := gv K cl (Rp K cl) W f
abbrev ta (f : Ev → R (List PV)) : TA := gv K cl (RpA K cl) W f
abbrev tt (f : Ev → R Bool) : TT := gv K cl (fun _ b c => b = c) W f
end

section
variable {K : PySem.W.Frag} {cl : Nat → Addr} {W : WX} {Hs Hs1 H H1 : Hp} {σ : St} {ρ : Ev}
theorem PEnv.up (E : PEnv K cl Hs H σ ρ) (s : Ext Hs H Hs1 H1) : PEnv K cl Hs1 H1 σ ρ :=
  ⟨s.sub, E.len, fun i v h => let ⟨x, e, r⟩ := E.at_ i v h; ⟨x, e, r.mono s.fs⟩⟩
section
variable {α β : Type} {rel : Hp → β → α → Prop} {r : R α} {Q Q' : β → Hp → Prop}
theorem GP.up (h : GP K cl rel W Hs H σ r Q) (s : Ext Hs H Hs1 H1) : GP K cl rel W Hs1 H1 σ r Q := by
  cases r with
  | ok v => exact fun x Hs' H' t => h x Hs' H' (s.trans t)
  | exc c fs => exact fun d fvs Hs' H' t => h d fvs Hs' H' (s.trans t)
  | stuck => exact h
theorem gv_bind {α' β' : Type} {rel' : Hp → β' → α' → Prop} {f : Ev → R α} {k : α → R α'} {Q' : β' → Hp → Prop} (E : PEnv K cl Hs H σ ρ) (h : GP K cl rel' W Hs H σ ((f ρ).bind k) Q')
    (hk : ∀ v x Hs1 H1, f ρ = .ok v → Ext Hs H Hs1 H1 → rel Hs1 x v → GP K cl rel' W Hs1 H1 σ (k v) Q' → Q x H1) : gv K cl rel W f σ H Q := by
  refine ⟨Hs, ρ, E, ?_⟩
  cases e : f ρ with
  | ok v =>
    rw [e] at h
    exact fun x Hs1 H1 s1 rx => hk v x Hs1 H1 e s1 rx (GP.up h s1)
  | exc c fs => rw [e] at h; exact h
  | stuck => rw [e] at h; exact h
theorem GP.here {v : α} {x : β} (h : GP K cl rel W Hs H σ (.ok v) Q) (s : Sub Hs H) (r : rel Hs x v) : Q x H := h x Hs H (Ext.refl s) r
end
/-- an operation's outcome -/
def opt {α : Type} : Option α → R α
  | some a => .ok a
  | none => .stuck
theorem opt_some {α : Type} (a : α) : opt (some a) = .ok a := rfl
theorem GP.opt {α β : Type} {rel : Hp → β → α → Prop} {o : Option α} {Q : β → Hp → Prop} (h : GP K cl rel W Hs H σ (opt o) Q) : ∃ w, o = some w ∧ GP K cl rel W Hs H σ (.ok w) Q := by
  cases o with
  | some w => exact ⟨w, rfl, h⟩
  | none => exact h.elim

/-! new objects -/
theorem new_lst {p : Addr} {vs : List V} {xs : List PV} {Q : VK} (h : GP K cl (Rp K cl) W Hs H σ (.ok (.lst xs)) Q) (s : Sub Hs H) (n : H p = none) (r : RpA K cl Hs vs xs) : Q (.ref p) (upd H p (.lst vs)) :=
  have n' : Hs p = none := s.none n
  h _ (upd Hs p (.lst vs)) _ (Ext.new s n) (.lst upd_same (r.mono (Sub.new n')))
theorem new_tup {p : Addr} {vs : List V} {xs : List PV} {Q : VK} (h : GP K cl (Rp K cl) W Hs H σ (.ok (.tup xs)) Q) (s : Sub Hs H) (n : H p = none) (r : RpA K cl Hs vs xs) : Q (.ref p) (upd H p (.tup vs)) :=
  have n' : Hs p = none := s.none n
  h _ (upd Hs p (.tup vs)) _ (Ext.new s n) (.tup (.of upd_same) (r.mono (Sub.new n')))
end

theorem peWeak {X : Cx} {e : Expr} {t t' : TE} (h : PE X e t) (w : ∀ σ H Q, t' σ H Q → t σ H Q) : PE X e t' := ⟨fun pins s σ H Q I q => h.run pins s σ H Q I (w σ H Q q)⟩
theorem ptWeak {X : Cx} {e : Expr} {t t' : TT} (h : PT X e t) (w : ∀ σ H Q, t' σ H Q → t σ H Q) : PT X e t' := ⟨fun pins s σ H Q I q => h.run pins s σ H Q I (w σ H Q q)⟩
theorem paWeak {X : Cx} {e : List Expr} {t t' : TA} (h : PA X e t) (w : ∀ σ H Q, t' σ H Q → t σ H Q) : PA X e t' := ⟨fun ps pins s σ H Q I q => h.run ps pins s σ H Q I (w σ H Q q)⟩
theorem psWeak {X : Cx} {e : Stmt} {t t' : TS} (h : PS X e t) (w : ∀ D σ H, t' D σ H → t D σ H) : PS X e t' := ⟨fun pins s σ H Q I q => h.run pins s σ H Q I (w Q σ H q)⟩
theorem pssWeak {X : Cx} {e : List Stmt} {t t' : TS} (h : PSs X e t) (w : ∀ D σ H, t' D σ H → t D σ H) : PSs X e t' := ⟨fun pins s σ H Q I q => h.run pins s σ H Q I (w Q σ H q)⟩

/-! ### the expressions -/
def eVar : Nat → Ex
  | 0, some v :: _ => .ok v
  | n + 1, _ :: r => eVar n r
  | _, _ => .stuck
theorem eVar_ok : ∀ {i : Nat} {ρ : Ev} {v : PV}, eVar i ρ = .ok v → ρ[i]? = some (some v)
  | 0, some v :: _, _, h => by cases h; rfl
  | 0, none :: _, _, h => by cases h
  | 0, [], _, h => by cases h
  | n + 1, [], _, h => by cases h
  | n + 1, x :: r, v, h => by rw [List.getElem?_cons_succ]; exact eVar_ok (i := n) h
theorem eVar_noexc : ∀ {i : Nat} {ρ : Ev} {c fs}, eVar i ρ ≠ .exc c fs
  | 0, some v :: _, _, _, h => by cases h
  | 0, none :: _, _, _, h => by cases h
  | 0, [], _, _, h => by cases h
  | n + 1, [], _, _, h => by cases h
  | n + 1, x :: r, _, _, h => eVar_noexc (i := n) (ρ := r) h
def eC (v : PV) : Ex := fun _ => .ok v
def e1 (g : PV → Option PV) (a : Ex) : Ex := fun ρ => (a ρ).bind fun x => opt (g x)
def e2 (g : PV → PV → Option PV) (a b : Ex) : Ex := fun ρ => (a ρ).bind fun x => (b ρ).bind fun y => opt (g x y)
def eIf (c : Ev → R Bool) (a b : Ex) : Ex := fun ρ => (c ρ).bind fun t => if t = true then a ρ else b ρ
def evs : List Ex → Ev → R (List PV)
  | [], _ => .ok []
  | a :: r, ρ => (a ρ).bind fun x => (evs r ρ).bind fun xs => .ok (x :: xs)
def eArgs (g : List PV → R PV) (as : List Ex) : Ex := fun ρ => (evs as ρ).bind g

section
variable {X : Cx} {cl : Nat → Addr} {W : WX} {pos : Pos} {a b : Expr} {f f' : Ex}
theorem ve_var (i : Nat) {x : Str} (hN : X.N[i]? = some x := by rfl) (hv : Vis X.env.scope x := by first | exact Or.inl rfl | exact Or.inr (Or.inl rfl) | exact Or.inr (Or.inr rfl)) (hd : (x == ("__debug__" : Str)) = false := by decide)
    (hcd : (x == ("__classdict__" : Str)) = false := by decide) : PE X (.Name x pos) (tv X.K cl W (eVar i)) :=
  peWeak (pe_var hN hv hd hcd) fun σ H Q ⟨Hs, ρ, E, h⟩ => by
    cases e : eVar i ρ with
    | ok v =>
      rw [e] at h
      obtain ⟨x, e1, r⟩ := E.at_ i v (eVar_ok e)
      exact ⟨x, e1, h.here E.sub r⟩
    | exc c fs => exact absurd e eVar_noexc
    | stuck => rw [e] at h; exact h.elim
theorem ve_c {v : V} {u : PV} {e : Expr} (h : PE X e (tC v)) (r : ∀ H, Rp X.K cl H v u) : PE X e (tv X.K cl W (eC u)) :=
  peWeak h fun σ H Q ⟨Hs, ρ, E, h⟩ => GP.here h E.sub (r _)
theorem ve_int {i j} : PE X (.Constant (.int i) j pos) (tv X.K cl W (eC (.int i))) := ve_c pe_int fun _ => .int i
theorem ve_bl {i j} : PE X (.Constant (.bool i) j pos) (tv X.K cl W (eC (.bl i))) := ve_c pe_bl fun _ => .bl i
theorem ve_non {j} : PE X (.Constant .none j pos) (tv X.K cl W (eC .non)) := ve_c pe_non fun _ => .non
theorem ve_str {x j} : PE X (.Constant (.str x) j pos) (tv X.K cl W (eC (.str x))) := ve_c pe_str fun _ => .str x
/-- a constant of the module -/
def GlobV (K : PySem.W.Frag) (cl : Nat → Addr) (mg : Str → Option Value) (x : Str) (u : PV) : Prop := ∃ (v : V) (w : Value), mg x = some w ∧ RelV v w ∧ ∀ H, Rp K cl H v u
theorem ve_glob {x : Str} {u : PV} (G : GlobV X.K cl X.mg x u) (hg : Gl X x := by rfl) (hd : (x == ("__debug__" : Str)) = false := by decide) : PE X (.Name x pos) (tv X.K cl W (eC u)) := by
  obtain ⟨v, w, h1, h2, h3⟩ := G
  exact ve_c (pe_glob hg h1 h2 hd) h3

/-- an operation of two values, by its library rule -/
def OpV (K : PySem.W.Frag) (cl : Nat → Addr) (r : R2) (g : PV → PV → Option PV) : Prop := ∀ (W : WX) (σ : St) (Hs H : Hp) (x y : V) (u v w : PV) (Q : VK), Sub Hs H → Rp K cl Hs x u → Rp K cl Hs y v → g u v = some w →
  GP K cl (Rp K cl) W Hs H σ (.ok w) Q → r x y H Q
theorem op_use {r : R2} {g : PV → PV → Option PV} (hg : OpV X.K cl r g) {σ : St} {H : Hp} {Q : VK} (h : tv X.K cl W (e2 g f f') σ H Q) : tOp r (tv X.K cl W f) (tv X.K cl W f') σ H Q := by
  obtain ⟨Hs, ρ, E, h⟩ := h
  refine gv_bind E h fun v x Hs1 H1 _ s1 rx h1 => ?_
  refine gv_bind (E.up s1) h1 fun u y Hs2 H2 _ t1 ry h2 => ?_
  obtain ⟨w, e, q⟩ := h2.opt
  exact hg W σ Hs2 H2 x y v u w Q t1.sub (rx.mono t1.fs) ry e q
theorem ve_bin {op : Operator} {r : R2} {g : PV → PV → Option PV} (ho : OpR X (binaryOp op) r) (hg : OpV X.K cl r g) (ha : PE X a (tv X.K cl W f)) (hb : PE X b (tv X.K cl W f')) : PE X (.BinOp a op b pos) (tv X.K cl W (e2 g f f')) :=
  peWeak (pe_op ho ha hb) fun _ _ _ h => op_use hg h
theorem ve_cmp {op : CmpOp} {r : R2} {g : PV → PV → Option PV} (ho : OpR X (compareOp op) r) (hg : OpV X.K cl r g) (ha : PE X a (tv X.K cl W f)) (hb : PE X b (tv X.K cl W f')) (hm : behindInMarks op b = false := by first | exact nomark _ | rfl) : PE X (.Compare a [op] [b] pos) (tv X.K cl W (e2 g f f')) :=
  peWeak (pe_cmpR ho ha hb hm) fun _ _ _ h => op_use hg h
/-- two rules for one operation -/
theorem OpV.or {r r' : R2} {g g' : PV → PV → Option PV} (h : OpV X.K cl r g) (h' : OpV X.K cl r' g') : OpV X.K cl (fun x y H Q => r x y H Q ∨ r' x y H Q) (fun u v => (g u v).or (g' u v)) := by
  intro W σ Hs H x y u v w Q s rx ry e q
  replace e : (g u v).or (g' u v) = some w := e
  cases e1 : g u v with
  | some z => rw [e1] at e; cases e; exact .inl (h W σ Hs H x y u v _ Q s rx ry e1 q)
  | none => rw [e1] at e; exact .inr (h' W σ Hs H x y u v _ Q s rx ry e q)

/-! tests -/
def eTst (a : Ex) : Ev → R Bool := fun ρ => (a ρ).bind fun x => match x with | .bl b => .ok b | _ => .stuck
theorem tst_use {σ : St} {H : Hp} {Q : Bool → Hp → Prop} (h : tt X.K cl W (eTst f) σ H Q) : tB (tv X.K cl W f) σ H Q := by
  obtain ⟨Hs, ρ, E, h⟩ := h
  refine gv_bind E h fun v x Hs1 H1 _ s1 rx h1 => ?_
  cases rx with
  | bl b => exact ⟨b, rfl, GP.here (x := b) h1 s1.sub rfl⟩
  | _ => exact h1.elim
theorem vt_cmp {op : CmpOp} {r : R2} {g : PV → PV → Option PV} (ho : OpR X (compareOp op) r) (hg : OpV X.K cl r g) (ha : PE X a (tv X.K cl W f)) (hb : PE X b (tv X.K cl W f')) (hm : behindInMarks op b = false := by first | exact nomark _ | rfl) : PT X (.Compare a [op] [b] pos) (tt X.K cl W (eTst (e2 g f f'))) :=
  ptWeak (pt_cmpR ho ha hb hm) fun σ H Q h => by
    have q := tst_use h
    obtain ⟨Hs, ρ, E, h⟩ := h
    show tOp r (tv X.K cl W f) (tv X.K cl W f') σ H _
    refine op_use (g := g) hg ⟨Hs, ρ, E, ?_⟩
    unfold eTst at h
    cases e : e2 g f f' ρ with
    | ok w =>
      rw [e] at h
      intro x Hs' H' s1 rx
      cases rx with
      | bl b => exact ⟨b, rfl, h b Hs' H' s1 rfl⟩
      | _ => exact h.elim
    | exc c fs => rw [e] at h; exact h
    | stuck => rw [e] at h; exact h
theorem vt_val {e : Expr} (h : PE X e (tv X.K cl W f)) (he : ∀ whole, isTrue e X.env whole = (do let v ← whole; standAt e.pos; holding [v] (truthy v)) := by intro _; rfl) : PT X e (tt X.K cl W (eTst f)) :=
  ptWeak (pt_val h he) fun _ _ _ h => tst_use h
/-- truth of a value -/
def truV : PV → Option Bool
  | .non => some false
  | .bl b => some b
  | .int i => some (i != 0)
  | .str x => if x.length ≤ sizeLine then some ((x.length : Int) != 0) else none
  | .tup xs => some (!xs.isEmpty)
  | .lst xs => some (!xs.isEmpty)
  | .src xs => some (!xs.isEmpty)
  | .dct kvs => some (!kvs.isEmpty)
  | .obj _ _ => none
  | .ty _ => none
theorem RpA.empty {K : PySem.W.Frag} {cl : Nat → Addr} {H : Hp} {vs : List V} {xs : List PV} (r : RpA K cl H vs xs) : xs.isEmpty = vs.isEmpty := by cases r <;> rfl
theorem RpK.empty {K : PySem.W.Frag} {cl : Nat → Addr} {H : Hp} {vs : List (Key × V)} {xs : List (Key × PV)} (r : RpK K cl H vs xs) : xs.isEmpty = vs.isEmpty := by cases r <;> rfl
def eTru (a : Ex) : Ev → R Bool := fun ρ => (a ρ).bind fun x => opt (truV x)
theorem truV_ok {K : PySem.W.Frag} {Hs H : Hp} {x : V} {u : PV} {b : Bool} (s : Sub Hs H) (r : Rp K cl Hs x u) (e : truV u = some b) : TruV K x H b := by
  cases r with
  | non => cases e; rfl
  | bl b => cases e; rfl
  | int i => cases e; rfl
  | str z =>
    replace e : (if z.length ≤ sizeLine then some ((z.length : Int) != 0) else none) = some b := e
    split at e
    · cases e; exact ⟨by assumption, rfl⟩
    · cases e
  | tup h ra => cases e; exact .inr (.inl ⟨_, s.seqT h, by rw [ra.empty]⟩)
  | lst h ra => cases e; exact .inl ⟨_, .of (s _ _ h), by rw [ra.empty]⟩
  | src h ra => cases e; exact .inl ⟨_, s.seqL h, by rw [ra.empty]⟩
  | dct h ra => cases e; exact .inr (.inr ⟨_, s _ _ h, by rw [ra.empty]⟩)
  | obj h ra => cases e
  | ty n => cases e
theorem vt_tru {e : Expr} (h : PE X e (tv X.K cl W f)) (he : ∀ whole, isTrue e X.env whole = (do let v ← whole; standAt e.pos; holding [v] (truthy v)) := by intro _; rfl) : PT X e (tt X.K cl W (eTru f)) :=
  ptWeak (pt_truth h he) fun σ H Q ⟨Hs, ρ, E, h⟩ => by
    refine gv_bind E h fun v x Hs1 H1 _ s1 rx h1 => ?_
    obtain ⟨b, e, q⟩ := h1.opt
    exact ⟨b, truV_ok s1.sub rx e, GP.here (x := b) q s1.sub rfl⟩
variable {c c' : Ev → R Bool} {rest : List Expr}
def cAnd (a b : Ev → R Bool) : Ev → R Bool := fun ρ => (a ρ).bind fun t => if t = true then b ρ else .ok false
def cOr (a b : Ev → R Bool) : Ev → R Bool := fun ρ => (a ρ).bind fun t => if t = true then .ok true else b ρ
def cNot (a : Ev → R Bool) : Ev → R Bool := fun ρ => (a ρ).bind fun t => .ok (!t)
theorem pwWeak {e : Expr} {t t' : TT} (h : PW X e t) (w : ∀ σ H Q, t' σ H Q → t σ H Q) : PW X e t' := ⟨fun wh pins s σ H Q I q => h.run wh pins s σ H Q I (w σ H Q q)⟩
theorem vw_and1 (ha : PT X a (tt X.K cl W c)) : PW X (.BoolOp .And [a] pos) (tt X.K cl W c) := pw_and1 ha
theorem vw_or1 (ha : PT X a (tt X.K cl W c)) : PW X (.BoolOp .Or [a] pos) (tt X.K cl W c) := pw_or1 ha
theorem vw_and (ha : PT X a (tt X.K cl W c)) (hb : PW X (.BoolOp .And (b :: rest) pos) (tt X.K cl W c')) : PW X (.BoolOp .And (a :: b :: rest) pos) (tt X.K cl W (cAnd c c')) :=
  pwWeak (pw_and ha hb) fun σ H Q ⟨Hs, ρ, E, h⟩ => by
    refine gv_bind E h fun v x Hs1 H1 _ s1 rx h1 => ?_
    subst rx
    cases x with
    | true => exact ⟨Hs1, ρ, E.up s1, h1⟩
    | false => exact GP.here (x := false) h1 s1.sub rfl
theorem vw_or (ha : PT X a (tt X.K cl W c)) (hb : PW X (.BoolOp .Or (b :: rest) pos) (tt X.K cl W c')) : PW X (.BoolOp .Or (a :: b :: rest) pos) (tt X.K cl W (cOr c c')) :=
  pwWeak (pw_or ha hb) fun σ H Q ⟨Hs, ρ, E, h⟩ => by
    refine gv_bind E h fun v x Hs1 H1 _ s1 rx h1 => ?_
    subst rx
    cases x with
    | true => exact GP.here (x := true) h1 s1.sub rfl
    | false => exact ⟨Hs1, ρ, E.up s1, h1⟩
theorem vt_not (ha : PT X a (tt X.K cl W c)) : PT X (.UnaryOp .Not a pos) (tt X.K cl W (cNot c)) :=
  ptWeak (pt_not ha) fun σ H Q ⟨Hs, ρ, E, h⟩ => by
    refine gv_bind E h fun v x Hs1 H1 _ s1 rx h1 => ?_
    subst rx
    exact GP.here (x := !x) h1 s1.sub rfl
/-! .. as values -/
def eAnd (a b : Ex) : Ex := fun ρ => (a ρ).bind fun x => match x with | .bl t => if t = true then b ρ else .ok (.bl false) | _ => .stuck
def eOr (a b : Ex) : Ex := fun ρ => (a ρ).bind fun x => match x with | .bl t => if t = true then .ok (.bl true) else b ρ | _ => .stuck
def eNot (a : Ex) : Ex := fun ρ => (a ρ).bind fun x => match x with | .bl t => .ok (.bl (!t)) | _ => .stuck
theorem ve_one {op} (h : PE X a (tv X.K cl W f)) : PE X (.BoolOp op [a] pos) (tv X.K cl W f) := pe_one h
theorem ve_and (ha : PE X a (tv X.K cl W f)) (hb : PE X (.BoolOp .And (b :: rest) pos) (tv X.K cl W f')) : PE X (.BoolOp .And (a :: b :: rest) pos) (tv X.K cl W (eAnd f f')) :=
  peWeak (pe_and ha hb) fun σ H Q ⟨Hs, ρ, E, h⟩ => by
    refine gv_bind E h fun v x Hs1 H1 _ s1 rx h1 => ?_
    cases rx with
    | bl t =>
      refine ⟨t, rfl, ?_⟩
      cases t with
      | true => exact ⟨Hs1, ρ, E.up s1, h1⟩
      | false => exact GP.here h1 s1.sub (.bl false)
    | _ => exact h1.elim
theorem ve_or (ha : PE X a (tv X.K cl W f)) (hb : PE X (.BoolOp .Or (b :: rest) pos) (tv X.K cl W f')) : PE X (.BoolOp .Or (a :: b :: rest) pos) (tv X.K cl W (eOr f f')) :=
  peWeak (pe_or ha hb) fun σ H Q ⟨Hs, ρ, E, h⟩ => by
    refine gv_bind E h fun v x Hs1 H1 _ s1 rx h1 => ?_
    cases rx with
    | bl t =>
      refine ⟨t, rfl, ?_⟩
      cases t with
      | true => exact GP.here h1 s1.sub (.bl true)
      | false => exact ⟨Hs1, ρ, E.up s1, h1⟩
    | _ => exact h1.elim
theorem ve_not (ha : PE X a (tv X.K cl W f)) : PE X (.UnaryOp .Not a pos) (tv X.K cl W (eNot f)) :=
  peWeak (pe_not ha) fun σ H Q ⟨Hs, ρ, E, h⟩ => by
    refine gv_bind E h fun v x Hs1 H1 _ s1 rx h1 => ?_
    cases rx with
    | bl t => exact ⟨t, rfl, GP.here h1 s1.sub (.bl (!t))⟩
    | _ => exact h1.elim
theorem ve_if {t : Expr} (hc : PT X t (tt X.K cl W c)) (ha : PE X a (tv X.K cl W f)) (hb : PE X b (tv X.K cl W f')) : PE X (.IfExp t a b pos) (tv X.K cl W (eIf c f f')) :=
  peWeak (pe_ifExp hc ha hb) fun σ H Q ⟨Hs, ρ, E, h⟩ => by
    refine gv_bind E h fun v x Hs1 H1 _ s1 rx h1 => ?_
    subst rx
    cases x with
    | true => exact ⟨Hs1, ρ, E.up s1, h1⟩
    | false => exact ⟨Hs1, ρ, E.up s1, h1⟩
/-! chains -/
def chainK (g' : PV → PV → Option PV) (c : Ex) (ρ : Ev) (y : PV) : PV → R PV
  | .bl k => if k = true then (c ρ).bind fun w => opt (g' y w) else .ok (.bl false)
  | _ => .stuck
def eChain (g g' : PV → PV → Option PV) (a b c : Ex) : Ex := fun ρ => (a ρ).bind fun x => (b ρ).bind fun y => (opt (g x y)).bind (chainK g' c ρ y)
theorem chain_use {f'' : Ex} {r r' : R2} {g g' : PV → PV → Option PV} (hg : OpV X.K cl r g) (hg' : OpV X.K cl r' g') {σ : St} {H : Hp} {Q : VK} (h : tv X.K cl W (eChain g g' f f' f'') σ H Q) : tChain r r' (tv X.K cl W f) (tv X.K cl W f') (tv X.K cl W f'') σ H Q := by
  obtain ⟨Hs, ρ, E, h⟩ := h
  refine gv_bind E h fun v x Hs1 H1 _ s1 rx h1 => ?_
  refine gv_bind (E.up s1) h1 fun u y Hs2 H2 _ t1 ry h2 => ?_
  have E2 := (E.up s1).up t1
  cases e : g v u with
  | none => rw [e] at h2; exact h2.elim
  | some z =>
    rw [e] at h2
    have h3 : GP X.K cl (Rp X.K cl) W Hs2 H2 σ (chainK g' f'' ρ u z) Q := h2
    refine hg W σ Hs2 H2 x y v u z _ t1.sub (rx.mono t1.fs) ry e fun zz Hs3 H3 w1 rz => ?_
    have h4 := GP.up h3 w1
    cases rz with
    | bl k =>
      refine ⟨k, rfl, ?_⟩
      cases k with
      | true =>
        rw [if_pos rfl]
        refine gv_bind (E2.up w1) h4 fun u4 y4 Hs4 H4 _ q1 r4 h5 => ?_
        obtain ⟨w, e5, q⟩ := h5.opt
        exact hg' W σ Hs4 H4 y y4 u u4 w Q q1.sub ((ry.mono w1.fs).mono q1.fs) r4 e5 q
      | false => exact GP.here h4 w1.sub (.bl false)
    | _ => exact h4.elim
theorem ve_chain {f'' : Ex} {d : Expr} {op op' : CmpOp} {r r' : R2} {g g' : PV → PV → Option PV} (ho : OpR X (compareOp op) r) (ho' : OpR X (compareOp op') r') (hg : OpV X.K cl r g) (hg' : OpV X.K cl r' g') (ha : PE X a (tv X.K cl W f)) (hb : PE X b (tv X.K cl W f')) (hd : PE X d (tv X.K cl W f'')) (hm : lastMarks [op, op'] [b, d] = false := by rfl) : PE X (.Compare a [op, op'] [b, d] pos) (tv X.K cl W (eChain g g' f f' f'')) :=
  peWeak (pe_chain ho ho' ha hb hd hm) fun _ _ _ h => chain_use hg hg' h
theorem vt_chain {f'' : Ex} {d : Expr} {op op' : CmpOp} {r r' : R2} {g g' : PV → PV → Option PV} (ho : OpR X (compareOp op) r) (ho' : OpR X (compareOp op') r') (hg : OpV X.K cl r g) (hg' : OpV X.K cl r' g') (ha : PE X a (tv X.K cl W f)) (hb : PE X b (tv X.K cl W f')) (hd : PE X d (tv X.K cl W f'')) (hm : lastMarks [op, op'] [b, d] = false := by rfl) : PT X (.Compare a [op, op'] [b, d] pos) (tt X.K cl W (eTst (eChain g g' f f' f''))) :=
  ptWeak (pt_chain ho ho' ha hb hd hm) fun σ H Q ⟨Hs, ρ, E, h⟩ => by
    show tChain r r' (tv X.K cl W f) (tv X.K cl W f') (tv X.K cl W f'') σ H _
    refine chain_use hg hg' ⟨Hs, ρ, E, ?_⟩
    unfold eTst at h
    cases e : eChain g g' f f' f'' ρ with
    | ok w =>
      rw [e] at h
      intro x Hs' H' s1 rx
      cases rx with
      | bl b => exact ⟨b, rfl, h b Hs' H' s1 rfl⟩
      | _ => exact h.elim
    | exc c fs => rw [e] at h; exact h
    | stuck => rw [e] at h; exact h
/-! argument lists, displays -/
theorem va_nil : PA X [] (ta X.K cl W (evs [])) := paWeak pa_nil fun σ H Q ⟨Hs, ρ, E, h⟩ => GP.here h E.sub .nil
theorem va_cons {e : Expr} {es : List Expr} {fs : List Ex} (ha : PE X e (tv X.K cl W f)) (hr : PA X es (ta X.K cl W (evs fs))) (hs : starEach (e :: es) X.env = (false, eval e X.env) :: starEach es X.env := by rfl) : PA X (e :: es) (ta X.K cl W (evs (f :: fs))) :=
  paWeak (pa_cons ha hr hs) fun σ H Q ⟨Hs, ρ, E, h⟩ => by
    refine gv_bind E h fun v x Hs1 H1 _ s1 rx h1 => ?_
    refine gv_bind (E.up s1) h1 fun u y Hs2 H2 _ t1 ry h2 => ?_
    exact GP.here h2 t1.sub (.cons (rx.mono t1.fs) ry)
def gTupV : List PV → R PV := fun xs => if xs.length ≤ sizeLine then .ok (.tup xs) else .stuck
def gLstV : List PV → R PV := fun xs => if xs.length ≤ sizeLine then .ok (.lst xs) else .stuck
theorem ve_tup {es : List Expr} {x1} {fs : List Ex} (h : PA X es (ta X.K cl W (evs fs))) : PE X (.Tuple es x1 pos) (tv X.K cl W (eArgs gTupV fs)) :=
  peWeak (pe_tup h) fun σ H Q ⟨Hs, ρ, E, h⟩ => by
    refine gv_bind E h fun v x Hs1 H1 _ s1 rx h1 => ?_
    unfold gTupV at h1
    split at h1
    · exact ⟨by rw [rx.length]; assumption, fun p n => new_tup h1 s1.sub n rx⟩
    · exact h1.elim
theorem ve_lst {es : List Expr} {fs : List Ex} (h : PA X es (ta X.K cl W (evs fs))) : PE X (.List es pos) (tv X.K cl W (eArgs gLstV fs)) :=
  peWeak (pe_lst h) fun σ H Q ⟨Hs, ρ, E, h⟩ => by
    refine gv_bind E h fun v x Hs1 H1 _ s1 rx h1 => ?_
    unfold gLstV at h1
    split at h1
    · exact ⟨by rw [rx.length]; assumption, fun p n => new_lst h1 s1.sub n rx⟩
    · exact h1.elim
/-! built-in functions by values -/
def CallV (K : PySem.W.Frag) (cl : Nat → Addr) (r : List V → Hp → VK → Prop) (g : List PV → Option PV) : Prop := ∀ (W : WX) (σ : St) (Hs H : Hp) (xs : List V) (us : List PV) (w : PV) (Q : VK), Sub Hs H → RpA K cl Hs xs us → g us = some w →
  GP K cl (Rp K cl) W Hs H σ (.ok w) Q → r xs H Q
theorem CallV.or {r r' : List V → Hp → VK → Prop} {g g' : List PV → Option PV} (h : CallV X.K cl r g) (h' : CallV X.K cl r' g') : CallV X.K cl (fun x H Q => r x H Q ∨ r' x H Q) (fun u => (g u).or (g' u)) := by
  intro W σ Hs H x u w Q s rx e q
  replace e : (g u).or (g' u) = some w := e
  cases e1 : g u with
  | some z => rw [e1] at e; cases e; exact .inl (h W σ Hs H x u _ Q s rx e1 q)
  | none => rw [e1] at e; exact .inr (h' W σ Hs H x u _ Q s rx e q)
def eCB (g : List PV → Option PV) (as : List Ex) : Ex := eArgs (fun xs => opt (g xs)) as
theorem cb_use {r : List V → Hp → VK → Prop} {g : List PV → Option PV} {fs : List Ex} (hg : CallV X.K cl r g) {σ : St} {H : Hp} {Q : VK} (h : tv X.K cl W (eCB g fs) σ H Q) : tCB r (ta X.K cl W (evs fs)) σ H Q := by
  obtain ⟨Hs, ρ, E, h⟩ := h
  refine gv_bind E h fun v x Hs1 H1 _ s1 rx h1 => ?_
  obtain ⟨w, e, q⟩ := h1.opt
  exact hg W σ Hs1 H1 x v w Q s1.sub rx e q
theorem ve_callB {x : Str} {p : Pos} {id : String} {e : Expr} {es : List Expr} {fs : List Ex} {r : List V → Hp → VK → Prop} {g : List PV → Option PV} (hc : CallR X (.builtin id) r) (hg : CallV X.K cl r g) (hm : X.mg x = none) (hv : bootBuiltins x = some (.builtin id)) (ha : PA X (e :: es) (ta X.K cl W (evs fs)))
    (hgl : Gl X x := by rfl) (hn : x ≠ "__name__" := by decide) (hd : (x == ("__debug__" : Str)) = false := by decide) (he : starEach (e :: es) X.env = (false, eval e X.env) :: starEach es X.env := by rfl) (hpl : (backTo pos (starEach es X.env)).any (·.1) = false := by rfl) : PE X (.Call (.Name x p) (e :: es) [] pos) (tv X.K cl W (eCB g fs)) :=
  peWeak (pe_callB hc hgl hm hv ha (hn := hn) (hdb := hd) (he := he) (hpl := hpl)) fun _ _ _ h => cb_use hg h
theorem ve_callTy {x : Str} {p : Pos} {id : String} {e : Expr} {es : List Expr} {fs : List Ex} {r : List V → Hp → VK → Prop} {g : List PV → Option PV} (hc : CallR X (.type id) r) (hg : CallV X.K cl r g) (hm : X.mg x = none) (hv : bootBuiltins x = some (.type id)) (ha : PA X (e :: es) (ta X.K cl W (evs fs)))
    (hgl : Gl X x := by rfl) (hn : x ≠ "__name__" := by decide) (hd : (x == ("__debug__" : Str)) = false := by decide) (he : starEach (e :: es) X.env = (false, eval e X.env) :: starEach es X.env := by rfl) (hpl : (backTo pos (starEach es X.env)).any (·.1) = false := by rfl) : PE X (.Call (.Name x p) (e :: es) [] pos) (tv X.K cl W (eCB g fs)) :=
  peWeak (pe_callTy hc hgl hm hv ha (hn := hn) (hdb := hd) (he := he) (hpl := hpl)) fun _ _ _ h => cb_use hg h
/-! subscripts, slices -/
def ixP : PV → PV → Option PV
  | .lst xs, .int i => atI xs i
  | .src xs, .int i => atI xs i
  | .tup xs, .int i => atI xs i
  | .str z, .int i => if z.length ≤ sizeLine then (atI z.cps.toList i).map fun c => .str ⟨#[c]⟩ else none
  | _, _ => none
theorem RpA.atI {K : PySem.W.Frag} {H : Hp} {vs : List V} {xs : List PV} {i : Int} {x : PV} (r : RpA K cl H vs xs) (h : L2.atI xs i = some x) : ∃ v, L2.atI vs i = some v ∧ Rp K cl H v x := by
  unfold L2.atI at h ⊢
  rw [r.length]
  cases e : ixN xs.length i with
  | none => rw [e] at h; cases h
  | some j => rw [e] at h; exact r.get h
theorem ve_ix {e i : Expr} (ha : PE X e (tv X.K cl W f)) (hb : PE X i (tv X.K cl W f')) (hs : PlainIx i := by exact fun _ _ => rfl) : PE X (.Subscript e i pos) (tv X.K cl W (e2 ixP f f')) :=
  peWeak (pe_ix ix_seq ha hb hs) fun σ H Q h => by
    refine op_use (r := rIx X.K) (g := ixP) ?_ h
    intro W σ Hs H x y u v w Q s rx ry e q
    cases ry with
    | int i =>
      cases rx with
      | lst h ra => obtain ⟨v, e1, r1⟩ := ra.atI e; exact .inl ⟨_, _, _, v, rfl, rfl, .of (s _ _ h), e1, q.here s r1⟩
      | src h ra => obtain ⟨v, e1, r1⟩ := ra.atI e; exact .inl ⟨_, _, _, v, rfl, rfl, s.seqL h, e1, q.here s r1⟩
      | tup h ra => obtain ⟨v, e1, r1⟩ := ra.atI e; exact .inr (.inl ⟨_, _, _, v, rfl, rfl, s.seqT h, e1, q.here s r1⟩)
      | str z =>
        replace e : (if z.length ≤ sizeLine then (L2.atI z.cps.toList i).map fun c => PV.str ⟨#[c]⟩ else none) = some w := e
        split at e
        · cases e1 : atI z.cps.toList i with
          | none => rw [e1] at e; cases e
          | some c => rw [e1] at e; cases e; exact .inr (.inr ⟨_, _, c, rfl, rfl, by assumption, e1, q.here s (.str _)⟩)
        · cases e
      | _ => cases e
    | _ => cases rx <;> cases e
/-- a slice's bound -/
abbrev Pt := Ev → R (Option Int)
def pNo : Pt := fun _ => .ok none
def pAt (a : Ex) : Pt := fun ρ => (a ρ).bind fun x => match x with | .int i => .ok (some i) | _ => .stuck
abbrev tpt (K : PySem.W.Frag) (cl : Nat → Addr) (W : WX) (f : Pt) : TO := gv K cl (fun _ o o' => o = o') W f
theorem poWeak {X : Cx} {e : Option Expr} {t t' : TO} (h : PO X e t) (w : ∀ σ H Q, t' σ H Q → t σ H Q) : PO X e t' := ⟨fun pins s σ H Q I q => h.run pins s σ H Q I (w σ H Q q)⟩
theorem vo_none : PO X none (tpt X.K cl W pNo) := poWeak po_none fun σ H Q ⟨Hs, ρ, E, h⟩ => GP.here (x := none) h E.sub rfl
theorem vo_some {e : Expr} (ha : PE X e (tv X.K cl W f)) : PO X (some e) (tpt X.K cl W (pAt f)) := poWeak (po_some ha) fun σ H Q ⟨Hs, ρ, E, h⟩ => by
  refine gv_bind E h fun v x Hs1 H1 _ s1 rx h1 => ?_
  cases rx with
  | int i => exact ⟨i, rfl, GP.here (x := some i) h1 s1.sub rfl⟩
  | _ => exact h1.elim
def cutP {α : Type} (xs : List α) (lo hi : Option Int) : List α := (xs.drop (HT.sIx xs.length 0 lo)).take (HT.sIx xs.length xs.length hi - HT.sIx xs.length 0 lo)
theorem RpA.cut {K : PySem.W.Frag} {H : Hp} {vs : List V} {xs : List PV} (r : RpA K cl H vs xs) (lo hi : Option Int) : RpA K cl H (cutV vs lo hi) (cutP xs lo hi) := by
  unfold cutV cutP
  rw [r.length]
  exact (r.drop _).take _
def slP (x : PV) (lo hi : Option Int) : Option PV := match x with
  | .lst xs => some (.lst (cutP xs lo hi))
  | .src xs => some (.lst (cutP xs lo hi))
  | .tup xs => some (.tup (cutP xs lo hi))
  | .str z => if z.length ≤ sizeLine then some (.str (cutS z lo hi)) else none
  | _ => none
def eSl (a : Ex) (lo hi : Pt) : Ex := fun ρ => (a ρ).bind fun x => (lo ρ).bind fun l => (hi ρ).bind fun h => opt (slP x l h)
theorem cut_whole {α : Type} {xs : List α} {lo hi : Option Int} (h : HT.sIx xs.length 0 lo = 0 ∧ HT.sIx xs.length xs.length hi = xs.length) : cutP xs lo hi = xs := by
  unfold cutP
  rw [h.1, h.2]
  simp
theorem ve_slice {e : Expr} {lo hi : Option Expr} {p2 : Pos} {l h : Pt} (ha : PE X e (tv X.K cl W f)) (hl : PO X lo (tpt X.K cl W l)) (hh : PO X hi (tpt X.K cl W h)) : PE X (.Subscript e (.Slice lo hi none p2) pos) (tv X.K cl W (eSl f l h)) :=
  peWeak (pe_slice (SlR.or (SlR.or sl_list sl_tupA) sl_str) ha hl hh) fun σ H Q ⟨Hs, ρ, E, h⟩ => by
    refine gv_bind E h fun v x Hs1 H1 _ s1 rx h1 => ?_
    refine gv_bind (E.up s1) h1 fun l1 l2 Hs2 H2 _ t1 el h2 => ?_
    refine gv_bind ((E.up s1).up t1) h2 fun u1 u2 Hs3 H3 _ w1 eu h3 => ?_
    subst el eu
    obtain ⟨w, e, q⟩ := h3.opt
    have rx3 := (rx.mono t1.fs).mono w1.fs
    cases rx3 with
    | lst h ra => cases e; exact .inl (.inl ⟨_, _, rfl, .of (w1.sub _ _ h), fun p n => new_lst q w1.sub n (ra.cut _ _)⟩)
    | src h ra => cases e; exact .inl (.inl ⟨_, _, rfl, w1.sub.seqL h, fun p n => new_lst q w1.sub n (ra.cut _ _)⟩)
    | tup h ra =>
      cases e
      refine .inl (.inr ⟨_, _, rfl, w1.sub.seqT h, fun whole => ?_, fun _ p n => new_tup q w1.sub n (ra.cut _ _)⟩)
      rw [ra.length] at whole
      rw [cut_whole whole] at q
      exact q.here w1.sub (.tup h ra)
    | str z =>
      replace e : (if z.length ≤ sizeLine then some (PV.str (cutS z l2 u2)) else none) = some w := e
      split at e
      · cases e; exact .inr ⟨_, rfl, by assumption, q.here w1.sub (.str _)⟩
      · cases e
    | _ => cases e
end
end VL
namespace VL
open PySem PySem.Spec PyProof.Rows L2
/-! ### the operations of values -/
/-- what a divisor stays below -/
def bigI : Int := 2 ^ 4000
theorem lt_bigI {j : Int} (h : j < 2 ^ 64) : j < bigI := Int.lt_trans h (by unfold bigI; decide +kernel)
def addP : PV → PV → Option PV
  | .int i, .int j => some (.int (i + j))
  | .str a, .str b => if a.length + b.length ≤ sizeLine then some (.str (a ++ b)) else none
  | .lst xs, .lst ys => if xs.length + ys.length ≤ sizeLine then some (.lst (xs ++ ys)) else none
  | .tup xs, .tup ys => if xs.length + ys.length ≤ sizeLine then some (.tup (xs ++ ys)) else none
  | _, _ => none
def subP : PV → PV → Option PV
  | .int i, .int j => some (.int (i - j))
  | _, _ => none
def mulOk (i j : Int) : Bool := ((decide (-(2 ^ 64) < i) && decide (i < 2 ^ 64)) || (decide (-(2 ^ 64) < j) && decide (j < 2 ^ 64))) || ((decide (-bigI < i) && decide (i < bigI)) && (decide (-bigI < j) && decide (j < bigI)))
def mulP : PV → PV → Option PV
  | .int i, .int j => if mulOk i j = true then some (.int (i * j)) else none
  | .lst xs, .int k => if -(2 ^ 63) ≤ k ∧ k < 2 ^ 63 ∧ xs.length * k.toNat ≤ sizeLine then some (.lst (List.replicate k.toNat xs).flatten) else none
  | _, _ => none
def modP : PV → PV → Option PV
  | .int i, .int j => if 0 < j then some (.int (i % j)) else none
  | _, _ => none
def divP : PV → PV → Option PV
  | .int i, .int j => if 0 < j ∧ j < bigI then some (.int (i / j)) else if j < 0 ∧ -bigI < j then some (.int ((-i) / (-j))) else none
  | _, _ => none
def powP : PV → PV → Option PV
  | .int i, .int j => if 0 ≤ j ∧ j ≤ 1000 ∧ -(2 ^ 60) < i ∧ i < 2 ^ 60 then some (.int (i ^ j.toNat)) else none
  | _, _ => none
/-- == -/
def eqB : PV → PV → Option Bool
  | .int i, .int j => some (decide (i = j))
  | .str i, .str j => some (decide (i = j))
  | .bl i, .bl j => some (decide (i = j))
  | .non, .non => some true
  | x, y => match x.data, y.data with
    | some d, some e => if SeqAt.shaped d = true ∧ SeqAt.shaped e = true then some (PyData.eqv d e) else none
    | _, _ => none
def eqP (x y : PV) : Option PV := (eqB x y).map .bl
def neP (x y : PV) : Option PV := (eqB x y).map fun b => .bl (!b)
def isP : PV → PV → Option PV
  | .non, .non => some (.bl true)
  | _, .non => some (.bl false)
  | .bl a, .bl b => some (.bl (decide (a = b)))
  | _, _ => none
def isntP : PV → PV → Option PV
  | .non, .non => some (.bl false)
  | _, .non => some (.bl true)
  | .bl a, .bl b => some (.bl (!decide (a = b)))
  | _, _ => none
def intsP : List PV → Option (List Int)
  | [] => some []
  | .int i :: r => (intsP r).map (i :: ·)
  | _ :: _ => none
def ltP : PV → PV → Option PV
  | .int i, .int j => some (.bl (decide (i < j)))
  | .str i, .str j => some (.bl (decide (i.cps.toList < j.cps.toList)))
  | .tup xs, .tup ys => (intsP xs).bind fun ns => (intsP ys).map fun ms => .bl (HT.lexLt ns ms)
  | _, _ => none
def leP : PV → PV → Option PV
  | .int i, .int j => some (.bl (decide (i ≤ j)))
  | .str i, .str j => some (.bl (!decide (j.cps.toList < i.cps.toList)))
  | _, _ => none
def gtP : PV → PV → Option PV
  | .int i, .int j => some (.bl (decide (j < i)))
  | _, _ => none
def geP : PV → PV → Option PV
  | .int i, .int j => some (.bl (decide (j ≤ i)))
  | _, _ => none
def flatP : PV → Bool
  | .non => true | .bl _ => true | .int _ => true | .str _ => true
  | _ => false
def eqF : PV → PV → Bool
  | .non, .non => true
  | .bl a, .bl b => a == b
  | .bl a, .int b => (if a then 1 else 0) == b
  | .int a, .bl b => a == (if b then 1 else 0)
  | .int a, .int b => a == b
  | .str a, .str b => a == b
  | _, _ => false
def dataIn (x : PV) (xs : List PV) : Option Bool := match x.data, PV.datas xs with
  | some d, some ds => if SeqAt.shaped d = true ∧ SeqAt.shaped (.list ds) = true then some (ds.any fun z => PyData.eqv z d) else none
  | _, _ => none
def inB (x : PV) : PV → Option Bool
  | .lst xs => if flatP x = true ∧ xs.all flatP = true then some (xs.any fun y => eqF y x) else dataIn x xs
  | .src xs => if flatP x = true ∧ xs.all flatP = true then some (xs.any fun y => eqF y x) else dataIn x xs
  | .tup xs => if flatP x = true ∧ xs.all flatP = true then some (xs.any fun y => eqF y x) else none
  | .str z => match x with
    | .str c => if c.cps.size = 1 then some (decide (c.cps.getD 0 0 ∈ z.cps.toList)) else some (!(Builtin.Str.occurrences z c 0 z.length 1).isEmpty)
    | _ => none
  | _ => none
def inP (x y : PV) : Option PV := (inB x y).map .bl
def ninP (x y : PV) : Option PV := (inB x y).map fun b => .bl (!b)
def negP : PV → Option PV
  | .int i => some (.int (-i))
  | _ => none

section
variable {K : PySem.W.Frag} {cl : Nat → Addr} {H Hs : Hp}
theorem RpA.ints : ∀ {vs : List V} {xs : List PV} {ns : List Int}, RpA K cl H vs xs → intsP xs = some ns → vs = ns.map V.int
  | _, _, _, .nil, e => by cases e; rfl
  | _, _, _, .cons r t, e => by
    cases r with
    | int i =>
      replace e : (intsP _).map (i :: ·) = some _ := e
      rw [Option.map_eq_some_iff] at e
      obtain ⟨r, e1, rfl⟩ := e
      rw [t.ints e1]
      rfl
    | _ => cases e
theorem RpA.flat : ∀ {vs : List V} {xs : List PV}, RpA K cl H vs xs → xs.all flatP = true → vs.all flatV = true
  | _, _, .nil, e => rfl
  | _, _, .cons r t, e => by
    rw [List.all_cons, Bool.and_eq_true] at e ⊢
    refine ⟨?_, t.flat e.2⟩
    cases r <;> first | rfl | cases e.1
theorem Rp.flat {v : V} {x : PV} (r : Rp K cl H v x) (e : flatP x = true) : flatV v = true := by cases r <;> first | rfl | cases e
theorem eqF_ok {v w : V} {x y : PV} (r : Rp K cl H v x) (q : Rp K cl H w y) : L2.eqV v w = eqF x y := by
  cases r <;> cases q <;> rfl
theorem RpA.any {w : V} {y : PV} (q : Rp K cl H w y) : ∀ {vs : List V} {xs : List PV}, RpA K cl H vs xs → (vs.any fun v => L2.eqV v w) = xs.any fun x => eqF x y
  | _, _, .nil => rfl
  | _, _, .cons r t => by rw [List.any_cons, List.any_cons, eqF_ok r q, RpA.any q t]
theorem Rp.nonIff {v : V} {x : PV} (r : Rp K cl H v x) : decide (v = .non) = (match x with | .non => true | _ => false) := by
  cases r <;> rfl
end

section
variable {X : Cx} {cl : Nat → Addr}
theorem ov_add : OpV X.K cl (fun x y H Q => ((rI0 fun i j => .int (i + j)) x y H Q ∨ (∃ i j, x = V.str i ∧ y = V.str j ∧ i.length + j.length ≤ sizeLine ∧ Q (.str (i ++ j)) H)) ∨ rCat x y H Q ∨ rCatA X.K x y H Q) addP := by
  intro W σ Hs H x y u v w Q s rx ry e q
  cases rx with
  | int i =>
    cases ry with
    | int j => cases e; exact .inl (.inl ⟨_, _, rfl, rfl, q.here s (.int _)⟩)
    | _ => cases e
  | str i =>
    cases ry with
    | str j =>
      replace e : (if i.length + j.length ≤ sizeLine then some (PV.str (i ++ j)) else none) = some w := e
      split at e
      · cases e; exact .inl (.inr ⟨_, _, rfl, rfl, by assumption, q.here s (.str _)⟩)
      · cases e
    | _ => cases e
  | @lst a vs xs h ra =>
    cases ry with
    | @lst b ws ys h' rb =>
      replace e : (if xs.length + ys.length ≤ sizeLine then some (PV.lst (xs ++ ys)) else none) = some w := e
      split at e
      · cases e; exact .inr (.inl ⟨_, _, _, _, rfl, rfl, s _ _ h, s _ _ h', by rw [ra.length, rb.length]; assumption, fun p n => new_lst q s n (ra.append rb)⟩)
      · cases e
    | _ => cases e
  | @tup a vs xs h ra =>
    cases ry with
    | @tup b ws ys h' rb =>
      replace e : (if xs.length + ys.length ≤ sizeLine then some (PV.tup (xs ++ ys)) else none) = some w := e
      split at e
      · cases e
        refine .inr (.inr ⟨_, _, _, _, rfl, rfl, s.seqT h, s.seqT h', by rw [ra.length, rb.length]; assumption, fun z => ?_, fun _ z => ?_, fun _ _ p n => new_tup q s n (ra.append rb)⟩)
        · subst z; cases ra; exact q.here s (.tup h' rb)
        · subst z; cases rb; rw [List.append_nil] at q; exact q.here s (.tup h ra)
      · cases e
    | _ => cases e
  | _ => cases e
theorem or_add : OpR X (binaryOp .Add) (fun x y H Q => ((rI0 fun i j => .int (i + j)) x y H Q ∨ (∃ i j, x = V.str i ∧ y = V.str j ∧ i.length + j.length ≤ sizeLine ∧ Q (.str (i ++ j)) H)) ∨ rCat x y H Q ∨ rCatA X.K x y H Q) := (op_add.or op_add_str).or (op_cat.or op_catA)
theorem ov_sub : OpV X.K cl (rI0 fun i j => .int (i - j)) subP := by
  intro W σ Hs H x y u v w Q s rx ry e q
  cases rx with
  | int i =>
    cases ry with
    | int j => cases e; exact ⟨_, _, rfl, rfl, q.here s (.int _)⟩
    | _ => cases e
  | _ => cases e
theorem log_big {j : Int} (h1 : j < bigI) (h2 : -bigI < j) : j.natAbs.log2 < 9000 := by
  have h5 : 4000 ≤ 9000 := by decide
  refine Nat.lt_of_lt_of_le (PySem.Flt.log2_lt_of (Nat.zero_lt_succ 3999) ?_) h5
  have h3 : (j.natAbs : Int) < ((2 ^ 4000 : Nat) : Int) := by
    rw [Int.natCast_pow]
    have : (j.natAbs : Int) < bigI := by omega
    exact this
  exact Int.ofNat_lt.mp h3
def CMulS (i j : Int) : Prop := mulOk i j = true
theorem CMulS.ok {i j : Int} (h : CMulS i j) : IntMulOk i j := by
  unfold CMulS mulOk at h
  simp only [Bool.or_eq_true, Bool.and_eq_true, decide_eq_true_eq] at h
  rcases h with h | ⟨⟨a, b⟩, c, e⟩
  · exact CMul.ok h
  · have x := log_big b a
    have y := log_big e c
    exact CMulW.ok (show i.natAbs.log2 + j.natAbs.log2 < 1000000 by omega)
theorem op_mulS : OpR X (binaryOp .Mult) (rI CMulS fun i j => .int (i * j)) := opI fun _ _ _ _ _ _ _ hc q => mul_int q (CMulS.ok hc)
theorem iop_mulS : OpR X (inplaceOp .Mult) (rI CMulS fun i j => .int (i * j)) := opI fun _ _ _ _ _ _ _ hc q => imul_int q (CMulS.ok hc)
theorem ov_mul : OpV X.K cl (fun x y H Q => (rI CMulS fun i j => .int (i * j)) x y H Q ∨ rRep x y H Q) mulP := by
  intro W σ Hs H x y u v w Q s rx ry e q
  cases rx with
  | int i =>
    cases ry with
    | int j =>
      replace e : (if mulOk i j = true then some (PV.int (i * j)) else none) = some w := e
      split at e
      · rename_i hk
        cases e
        exact .inl ⟨_, _, rfl, rfl, hk, q.here s (.int _)⟩
      · cases e
    | _ => cases e
  | @lst a vs xs h ra =>
    cases ry with
    | int k =>
      replace e : (if -(2 ^ 63) ≤ k ∧ k < 2 ^ 63 ∧ xs.length * k.toNat ≤ sizeLine then some (PV.lst (List.replicate k.toNat xs).flatten) else none) = some w := e
      split at e
      · rename_i hk
        cases e
        exact .inr ⟨_, _, _, rfl, rfl, s _ _ h, hk.1, hk.2.1, by rw [ra.length]; exact hk.2.2, fun p n => new_lst q s n (ra.rep _)⟩
      · cases e
    | _ => cases e
  | _ => cases e
theorem or_mul : OpR X (binaryOp .Mult) (fun x y H Q => (rI CMulS fun i j => .int (i * j)) x y H Q ∨ rRep x y H Q) := op_mulS.or op_rep
theorem ov_mod : OpV X.K cl (rI (fun _ j => 0 < j) fun i j => .int (i % j)) modP := by
  intro W σ Hs H x y u v w Q s rx ry e q
  cases rx with
  | int i =>
    cases ry with
    | int j =>
      replace e : (if 0 < j then some (PV.int (i % j)) else none) = some w := e
      split at e
      · cases e; exact ⟨_, _, rfl, rfl, by assumption, q.here s (.int _)⟩
      · cases e
    | _ => cases e
  | _ => cases e
def CDivS (_ j : Int) : Prop := j ≠ 0 ∧ j.natAbs.log2 < 9000
theorem op_fdivS : OpR X (binaryOp .FloorDiv) (rI CDivS fun i j => .int (i.fdiv j)) := opI fun i j _ _ _ _ _ hc q => floordiv_int hc.1 q (.inl (PyProof.noPylong_of_log2 hc.2))
theorem big_log {j : Int} (h0 : j ≠ 0) (h1 : j < bigI) (h2 : -bigI < j) : CDivS 0 j := by
  have h5 : 4000 ≤ 9000 := by decide
  refine ⟨h0, Nat.lt_of_lt_of_le (PySem.Flt.log2_lt_of (Nat.zero_lt_succ 3999) ?_) h5⟩
  have h3 : (j.natAbs : Int) < ((2 ^ 4000 : Nat) : Int) := by
    rw [Int.natCast_pow]
    have : (j.natAbs : Int) < bigI := by omega
    exact this
  exact Int.ofNat_lt.mp h3
theorem ov_div : OpV X.K cl (rI CDivS fun i j => .int (i.fdiv j)) divP := by
  intro W σ Hs H x y u v w Q s rx ry e q
  cases rx with
  | int i =>
    cases ry with
    | int j =>
      replace e : (if 0 < j ∧ j < bigI then some (PV.int (i / j)) else if j < 0 ∧ -bigI < j then some (.int ((-i) / (-j))) else none) = some w := e
      split at e
      · rename_i hk
        cases e
        have hB : (0 : Int) < bigI := Int.lt_trans hk.1 hk.2
        refine ⟨_, _, rfl, rfl, (big_log (by omega) hk.2 (by omega) : CDivS i j), ?_⟩
        have e3 : i.fdiv j = i / j := Int.fdiv_eq_ediv_of_nonneg i (by omega)
        show Q (.int (i.fdiv j)) H
        rw [e3]
        exact q.here s (.int _)
      · split at e
        · rename_i hk
          cases e
          have hB : (0 : Int) < bigI := by omega
          refine ⟨_, _, rfl, rfl, (big_log (by omega) (by omega) hk.2 : CDivS i j), ?_⟩
          have e3 : i.fdiv j = (-i) / (-j) := by rw [← Int.neg_fdiv_neg, Int.fdiv_eq_ediv_of_nonneg _ (by omega)]
          show Q (.int (i.fdiv j)) H
          rw [e3]
          exact q.here s (.int _)
        · cases e
    | _ => cases e
  | _ => cases e
theorem ov_pow : OpV X.K cl (rI CPow fun i j => .int (i ^ j.toNat)) powP := by
  intro W σ Hs H x y u v w Q s rx ry e q
  cases rx with
  | int i =>
    cases ry with
    | int j =>
      replace e : (if 0 ≤ j ∧ j ≤ 1000 ∧ -(2 ^ 60) < i ∧ i < 2 ^ 60 then some (PV.int (i ^ j.toNat)) else none) = some w := e
      split at e
      · rename_i hk
        cases e
        exact ⟨_, _, rfl, rfl, ⟨hk.1, by omega, by omega⟩, q.here s (.int _)⟩
      · cases e
    | _ => cases e
  | _ => cases e
theorem eq_split {Hs H : Hp} {x y : V} {u v : PV} {b : Bool} (s : Sub Hs H) (rx : Rp X.K cl Hs x u) (ry : Rp X.K cl Hs y v) (e : eqB u v = some b) :
    (scal x y = true ∧ decide (x = y) = b) ∨ ∃ d e, Dp X.K H x d ∧ Dp X.K H y e ∧ SeqAt.shaped d = true ∧ SeqAt.shaped e = true ∧ PyData.eqv d e = b := by
  have gen : (match u.data, v.data with
    | some d, some e => if SeqAt.shaped d = true ∧ SeqAt.shaped e = true then some (PyData.eqv d e) else none
    | _, _ => none) = some b → ∃ d e, Dp X.K H x d ∧ Dp X.K H y e ∧ SeqAt.shaped d = true ∧ SeqAt.shaped e = true ∧ PyData.eqv d e = b := by
    intro h
    split at h
    · rename_i d e1 h1 h2
      split at h
      · rename_i hs
        cases h
        exact ⟨d, e1, (rx.mono s).dp h1, (ry.mono s).dp h2, hs.1, hs.2, rfl⟩
      · cases h
    · cases h
  have tail : ∀ {u' v' : PV}, (∀ {o : Option Bool}, o = o) → True := fun _ => trivial
  cases rx with
  | int i =>
    cases ry with
    | int j => cases e; exact .inl ⟨rfl, by simp⟩
    | _ => exact .inr (gen e)
  | str i =>
    cases ry with
    | str j => cases e; exact .inl ⟨rfl, by simp⟩
    | _ => exact .inr (gen e)
  | bl i =>
    cases ry with
    | bl j => cases e; exact .inl ⟨rfl, by simp⟩
    | _ => exact .inr (gen e)
  | non =>
    cases ry with
    | non => cases e; exact .inl ⟨rfl, rfl⟩
    | _ => exact .inr (gen e)
  | tup h ra => cases ry <;> exact .inr (gen e)
  | lst h ra => cases ry <;> exact .inr (gen e)
  | src h ra => cases ry <;> exact .inr (gen e)
  | dct h ra => cases ry <;> exact .inr (gen e)
  | obj h ra => cases ry <;> exact .inr (gen e)
  | ty n => cases ry <;> exact .inr (gen e)
theorem ov_eq : OpV X.K cl (fun x y H Q => rEq x y H Q ∨ rEqD X.K x y H Q) eqP := by
  intro W σ Hs H x y u v w Q s rx ry e q
  unfold eqP at e
  rw [Option.map_eq_some_iff] at e
  obtain ⟨b, e1, rfl⟩ := e
  rcases eq_split s rx ry e1 with ⟨h1, h2⟩ | ⟨d, e2, h1, h2, h3, h4, h5⟩
  · exact .inl ⟨h1, by rw [h2]; exact q.here s (.bl b)⟩
  · exact .inr ⟨d, e2, h1, h2, h3, h4, by rw [h5]; exact q.here s (.bl b)⟩
theorem ov_ne : OpV X.K cl (fun x y H Q => rNe x y H Q ∨ rNeD X.K x y H Q) neP := by
  intro W σ Hs H x y u v w Q s rx ry e q
  unfold neP at e
  rw [Option.map_eq_some_iff] at e
  obtain ⟨b, e1, rfl⟩ := e
  rcases eq_split s rx ry e1 with ⟨h1, h2⟩ | ⟨d, e2, h1, h2, h3, h4, h5⟩
  · exact .inl ⟨h1, by rw [h2]; exact q.here s (.bl (!b))⟩
  · exact .inr ⟨d, e2, h1, h2, h3, h4, by rw [h5]; exact q.here s (.bl (!b))⟩
theorem or_eq (hu : X.A.units + 64 < cLine) : OpR X (compareOp .Eq) (fun x y H Q => rEq x y H Q ∨ rEqD X.K x y H Q) := op_eq.or (op_eqD hu)
theorem or_ne (hu : X.A.units + 64 < cLine) : OpR X (compareOp .NotEq) (fun x y H Q => rNe x y H Q ∨ rNeD X.K x y H Q) := op_ne.or (op_neD hu)
theorem ov_is : OpV X.K cl (fun x y H Q => (y = .non ∧ Q (.bl (decide (x = .non))) H) ∨ ∃ a b, x = V.bl a ∧ y = V.bl b ∧ Q (.bl (decide (a = b))) H) isP := by
  intro W σ Hs H x y u v w Q s rx ry e q
  cases ry with
  | non => exact .inl ⟨rfl, by cases rx <;> (cases e; exact q.here s (.bl _))⟩
  | bl b =>
    cases rx with
    | bl a => cases e; exact .inr ⟨_, _, rfl, rfl, q.here s (.bl _)⟩
    | _ => cases e
  | _ => cases rx <;> cases e
theorem ov_isnt : OpV X.K cl (fun x y H Q => (y = .non ∧ Q (.bl (!decide (x = .non))) H) ∨ ∃ a b, x = V.bl a ∧ y = V.bl b ∧ Q (.bl (!decide (a = b))) H) isntP := by
  intro W σ Hs H x y u v w Q s rx ry e q
  cases ry with
  | non => exact .inl ⟨rfl, by cases rx <;> (cases e; exact q.here s (.bl _))⟩
  | bl b =>
    cases rx with
    | bl a => cases e; exact .inr ⟨_, _, rfl, rfl, q.here s (.bl _)⟩
    | _ => cases e
  | _ => cases rx <;> cases e
theorem or_is : OpR X (compareOp .Is) (fun x y H Q => (y = .non ∧ Q (.bl (decide (x = .non))) H) ∨ ∃ a b, x = V.bl a ∧ y = V.bl b ∧ Q (.bl (decide (a = b))) H) := op_isN.or op_is_bl
theorem or_isnt : OpR X (compareOp .IsNot) (fun x y H Q => (y = .non ∧ Q (.bl (!decide (x = .non))) H) ∨ ∃ a b, x = V.bl a ∧ y = V.bl b ∧ Q (.bl (!decide (a = b))) H) := op_notN.or op_isnot_bl
theorem ov_lt : OpV X.K cl (fun x y H Q => ((rI0 fun i j => .bl (decide (i < j))) x y H Q ∨ (∃ i j, x = V.str i ∧ y = V.str j ∧ Q (.bl (decide (i.cps.toList < j.cps.toList))) H)) ∨ rLtT X.K x y H Q) ltP := by
  intro W σ Hs H x y u v w Q s rx ry e q
  cases rx with
  | int i =>
    cases ry with
    | int j => cases e; exact .inl (.inl ⟨_, _, rfl, rfl, q.here s (.bl _)⟩)
    | _ => cases e
  | str i =>
    cases ry with
    | str j => cases e; exact .inl (.inr ⟨_, _, rfl, rfl, q.here s (.bl _)⟩)
    | _ => cases e
  | @tup a vs xs h ra =>
    cases ry with
    | @tup b ws ys h' rb =>
      replace e : ((intsP xs).bind fun ns => (intsP ys).map fun ms => PV.bl (HT.lexLt ns ms)) = some w := e
      rw [Option.bind_eq_some_iff] at e
      obtain ⟨ns, e1, e⟩ := e
      rw [Option.map_eq_some_iff] at e
      obtain ⟨ms, e2, rfl⟩ := e
      have z1 := ra.ints e1
      have z2 := rb.ints e2
      subst z1 z2
      exact .inr ⟨_, _, _, _, rfl, rfl, s.seqT h, s.seqT h', q.here s (.bl _)⟩
    | _ => cases e
  | _ => cases e
theorem or_lt (hu : X.A.units < cLine) : OpR X (compareOp .Lt) (fun x y H Q => ((rI0 fun i j => .bl (decide (i < j))) x y H Q ∨ (∃ i j, x = V.str i ∧ y = V.str j ∧ Q (.bl (decide (i.cps.toList < j.cps.toList))) H)) ∨ rLtT X.K x y H Q) := (op_lt.or op_lt_str).or (op_ltT hu)
theorem ov_le : OpV X.K cl (fun x y H Q => (rI0 fun i j => .bl (decide (i ≤ j))) x y H Q ∨ (∃ i j, x = V.str i ∧ y = V.str j ∧ Q (.bl (!decide (j.cps.toList < i.cps.toList))) H)) leP := by
  intro W σ Hs H x y u v w Q s rx ry e q
  cases rx with
  | int i =>
    cases ry with
    | int j => cases e; exact .inl ⟨_, _, rfl, rfl, q.here s (.bl _)⟩
    | _ => cases e
  | str i =>
    cases ry with
    | str j => cases e; exact .inr ⟨_, _, rfl, rfl, q.here s (.bl _)⟩
    | _ => cases e
  | _ => cases e
theorem or_le : OpR X (compareOp .LtE) (fun x y H Q => (rI0 fun i j => .bl (decide (i ≤ j))) x y H Q ∨ (∃ i j, x = V.str i ∧ y = V.str j ∧ Q (.bl (!decide (j.cps.toList < i.cps.toList))) H)) := op_le.or op_le_str
theorem ov_gt : OpV X.K cl (rI0 fun i j => .bl (decide (j < i))) gtP := by
  intro W σ Hs H x y u v w Q s rx ry e q
  cases rx with
  | int i =>
    cases ry with
    | int j => cases e; exact ⟨_, _, rfl, rfl, q.here s (.bl _)⟩
    | _ => cases e
  | _ => cases e
theorem ov_ge : OpV X.K cl (rI0 fun i j => .bl (decide (j ≤ i))) geP := by
  intro W σ Hs H x y u v w Q s rx ry e q
  cases rx with
  | int i =>
    cases ry with
    | int j => cases e; exact ⟨_, _, rfl, rfl, q.here s (.bl _)⟩
    | _ => cases e
  | _ => cases e
def rInAll (K : PySem.W.Frag) : R2 := fun x y H Q => (rIn K false x y H Q ∨ rInD K x y H Q) ∨ (∃ (c : Nat) (z : Str), x = .str ⟨#[c]⟩ ∧ y = .str z ∧ Q (.bl (decide (c ∈ z.cps.toList))) H) ∨ ∃ i j, x = V.str i ∧ y = V.str j ∧ Q (.bl (!(Builtin.Str.occurrences j i 0 j.length 1).isEmpty)) H
def rNinAll (K : PySem.W.Frag) : R2 := fun x y H Q => (rIn K true x y H Q ∨ rNotInD K x y H Q) ∨ (∃ (c : Nat) (z : Str), x = .str ⟨#[c]⟩ ∧ y = .str z ∧ Q (.bl (!decide (c ∈ z.cps.toList))) H) ∨ ∃ i j, x = V.str i ∧ y = V.str j ∧ Q (.bl (!(!(Builtin.Str.occurrences j i 0 j.length 1).isEmpty))) H
theorem or_in (hu : X.A.units + 65 < cLine) : OpR X (compareOp .In) (rInAll X.K) := (op_in_seq.or (op_inD hu)).or (op_in_sign.or op_in_str)
theorem or_nin (hu : X.A.units + 65 < cLine) : OpR X (compareOp .NotIn) (rNinAll X.K) := (op_notIn_seq.or (op_notInD hu)).or (op_notIn_sign.or op_notin_str)
theorem one_sign {c : Str} (h : c.cps.size = 1) : c = ⟨#[c.cps.getD 0 0]⟩ := by
  obtain ⟨⟨l⟩⟩ := c
  match l, h with
  | [x], _ => rfl
theorem in_split {Hs H : Hp} {x y : V} {u v : PV} {b : Bool} (s : Sub Hs H) (rx : Rp X.K cl Hs x u) (ry : Rp X.K cl Hs y v) (e : inB u v = some b) :
    (∃ p xs, y = .ref p ∧ (SqL X.K H p xs ∨ SqT X.K H p xs) ∧ flatV x = true ∧ xs.all flatV = true ∧ inV x xs = b) ∨ (∃ d ds, Dp X.K H x d ∧ Dp X.K H y (.list ds) ∧ SeqAt.shaped d = true ∧ SeqAt.shaped (.list ds) = true ∧ (ds.any fun z => PyData.eqv z d) = b) ∨
      (∃ (c : Nat) (z : Str), x = .str ⟨#[c]⟩ ∧ y = .str z ∧ decide (c ∈ z.cps.toList) = b) ∨ ∃ i j, x = V.str i ∧ y = V.str j ∧ (!(Builtin.Str.occurrences j i 0 j.length 1).isEmpty) = b := by
  have deep : ∀ {a : Addr} {vs : List V} {xs : List PV}, SqL X.K H a vs → RpA X.K cl Hs vs xs → dataIn u xs = some b → ∃ d ds, Dp X.K H x d ∧ Dp X.K H (.ref a) (.list ds) ∧ SeqAt.shaped d = true ∧ SeqAt.shaped (.list ds) = true ∧ (ds.any fun z => PyData.eqv z d) = b := by
    intro a vs xs h ra h2
    unfold dataIn at h2
    split at h2
    · rename_i d ds e1 e2
      split at h2
      · rename_i hs
        cases h2
        exact ⟨d, ds, (rx.mono s).dp e1, .lst h ((ra.mono s).dp e2), hs.1, hs.2, rfl⟩
      · cases h2
    · cases h2
  cases ry with
  | @lst a vs xs h ra =>
    replace e : (if flatP u = true ∧ xs.all flatP = true then some (xs.any fun y => eqF y u) else dataIn u xs) = some b := e
    split at e
    · rename_i hf
      cases e
      exact .inl ⟨_, _, rfl, .inl (.of (s _ _ h)), rx.flat hf.1, ra.flat hf.2, RpA.any rx ra⟩
    · exact .inr (.inl (deep (.of (s _ _ h)) ra e))
  | @src a vs xs h ra =>
    replace e : (if flatP u = true ∧ xs.all flatP = true then some (xs.any fun y => eqF y u) else dataIn u xs) = some b := e
    split at e
    · rename_i hf
      cases e
      exact .inl ⟨_, _, rfl, .inl (s.seqL h), rx.flat hf.1, ra.flat hf.2, RpA.any rx ra⟩
    · exact .inr (.inl (deep (s.seqL h) ra e))
  | @tup a vs xs h ra =>
    replace e : (if flatP u = true ∧ xs.all flatP = true then some (xs.any fun y => eqF y u) else none) = some b := e
    split at e
    · rename_i hf
      cases e
      exact .inl ⟨_, _, rfl, .inr (s.seqT h), rx.flat hf.1, ra.flat hf.2, RpA.any rx ra⟩
    · cases e
  | str z =>
    cases rx with
    | str c =>
      replace e : (if c.cps.size = 1 then some (decide (c.cps.getD 0 0 ∈ z.cps.toList)) else some (!(Builtin.Str.occurrences z c 0 z.length 1).isEmpty)) = some b := e
      split at e
      · rename_i hc
        cases e
        exact .inr (.inr (.inl ⟨_, _, congrArg V.str (one_sign hc), rfl, rfl⟩))
      · cases e
        exact .inr (.inr (.inr ⟨_, _, rfl, rfl, rfl⟩))
    | _ => cases e
  | _ => cases e
theorem ov_in : OpV X.K cl (rInAll X.K) inP := by
  intro W σ Hs H x y u v w Q s rx ry e q
  unfold inP at e
  rw [Option.map_eq_some_iff] at e
  obtain ⟨b, e1, rfl⟩ := e
  have q := q.here s (.bl b)
  rcases in_split s rx ry e1 with ⟨p, xs, h1, h2, h3, h4, h5⟩ | ⟨d, ds, h1, h2, h3, h4, h5⟩ | ⟨c, z, h1, h2, h5⟩ | ⟨i, j, h1, h2, h5⟩
  · exact .inl (.inl ⟨p, xs, h1, h2, h3, h4, by rw [if_neg Bool.false_ne_true, h5]; exact q⟩)
  · exact .inl (.inr ⟨d, ds, h1, h2, h3, h4, by rw [h5]; exact q⟩)
  · exact .inr (.inl ⟨c, z, h1, h2, by rw [h5]; exact q⟩)
  · exact .inr (.inr ⟨i, j, h1, h2, by rw [h5]; exact q⟩)
theorem ov_nin : OpV X.K cl (rNinAll X.K) ninP := by
  intro W σ Hs H x y u v w Q s rx ry e q
  unfold ninP at e
  rw [Option.map_eq_some_iff] at e
  obtain ⟨b, e1, rfl⟩ := e
  have q := q.here s (.bl (!b))
  rcases in_split s rx ry e1 with ⟨p, xs, h1, h2, h3, h4, h5⟩ | ⟨d, ds, h1, h2, h3, h4, h5⟩ | ⟨c, z, h1, h2, h5⟩ | ⟨i, j, h1, h2, h5⟩
  · exact .inl (.inl ⟨p, xs, h1, h2, h3, h4, by rw [if_pos rfl, h5]; exact q⟩)
  · exact .inl (.inr ⟨d, ds, h1, h2, h3, h4, by rw [h5]; exact q⟩)
  · exact .inr (.inl ⟨c, z, h1, h2, by rw [h5]; exact q⟩)
  · exact .inr (.inr ⟨i, j, h1, h2, by rw [h5]; exact q⟩)
theorem ve_neg {W : WX} {a : Expr} {f : Ex} {pos : Pos} (ha : PE X a (tv X.K cl W f)) : PE X (.UnaryOp .USub a pos) (tv X.K cl W (e1 negP f)) :=
  peWeak (pe_un un_neg ha) fun σ H Q ⟨Hs, ρ, E, h⟩ => by
    refine gv_bind E h fun v x Hs1 H1 _ s1 rx h1 => ?_
    obtain ⟨w, e, q⟩ := h1.opt
    cases rx with
    | int i => cases e; exact ⟨i, rfl, q.here s1.sub (.int _)⟩
    | _ => cases e
end

/-! ### built-in functions -/
def lenP : List PV → Option PV
  | [.str y] => if y.length ≤ sizeLine then some (.int y.length) else none
  | [.lst xs] => some (.int xs.length)
  | [.src xs] => some (.int xs.length)
  | [.tup xs] => some (.int xs.length)
  | _ => none
def absP : List PV → Option PV
  | [.int i] => some (.int (if i < 0 then -i else i))
  | _ => none
def intP : List PV → Option PV
  | [.int i] => some (.int i)
  | [.bl b] => some (.int (if b then 1 else 0))
  | _ => none
def minL : List Int → Int
  | [] => 0
  | [x] => x
  | x :: r => min x (minL r)
def maxL : List Int → Int
  | [] => 0
  | [x] => x
  | x :: r => max x (maxL r)
theorem minL_ok : ∀ {ns : List Int}, ns ≠ [] → minL ns ∈ ns ∧ ∀ y ∈ ns, minL ns ≤ y
  | [], h => absurd rfl h
  | [x], _ => by simp [minL]
  | x :: y :: r, _ => by
    obtain ⟨h1, h2⟩ := minL_ok (ns := y :: r) (by simp)
    have e : minL (x :: y :: r) = min x (minL (y :: r)) := rfl
    rw [e]
    refine ⟨?_, fun z hz => ?_⟩
    · by_cases c : x ≤ minL (y :: r)
      · rw [Int.min_eq_left c]; exact List.mem_cons_self
      · rw [Int.min_eq_right (by omega)]; exact List.mem_cons_of_mem _ h1
    · rcases List.mem_cons.mp hz with rfl | hz
      · exact Int.min_le_left _ _
      · exact Int.le_trans (Int.min_le_right _ _) (h2 z hz)
theorem maxL_ok : ∀ {ns : List Int}, ns ≠ [] → maxL ns ∈ ns ∧ ∀ y ∈ ns, y ≤ maxL ns
  | [], h => absurd rfl h
  | [x], _ => by simp [maxL]
  | x :: y :: r, _ => by
    obtain ⟨h1, h2⟩ := maxL_ok (ns := y :: r) (by simp)
    have e : maxL (x :: y :: r) = max x (maxL (y :: r)) := rfl
    rw [e]
    refine ⟨?_, fun z hz => ?_⟩
    · by_cases c : maxL (y :: r) ≤ x
      · rw [Int.max_eq_left c]; exact List.mem_cons_self
      · rw [Int.max_eq_right (by omega)]; exact List.mem_cons_of_mem _ h1
    · rcases List.mem_cons.mp hz with rfl | hz
      · exact Int.le_max_left _ _
      · exact Int.le_trans (h2 z hz) (Int.le_max_right _ _)
def minP : List PV → Option PV
  | [.int i, .int j] => some (.int (if j < i then j else i))
  | [.lst xs] => (intsP xs).bind fun ns => if ns = [] then none else some (.int (minL ns))
  | _ => none
def maxP : List PV → Option PV
  | [.int i, .int j] => some (.int (if j > i then j else i))
  | [.lst xs] => (intsP xs).bind fun ns => if ns = [] then none else some (.int (maxL ns))
  | _ => none
def sumP : List PV → Option PV
  | [.lst xs] => (intsP xs).map fun ns => .int ns.sum
  | _ => none
def sortI (ns : List Int) : List Int := ns.mergeSort (fun a b => decide (a ≤ b))
theorem sortI_ok (ns : List Int) : (sortI ns).Perm ns ∧ (sortI ns).Pairwise (· ≤ ·) := by
  refine ⟨List.mergeSort_perm _ _, ?_⟩
  have h := List.pairwise_mergeSort (le := fun a b : Int => decide (a ≤ b)) (fun a b c h1 h2 => by simp at *; omega) (fun a b => by simp; omega) ns
  exact h.imp fun h => by simpa using h
def sortP : List PV → Option PV
  | [.lst xs] => (intsP xs).map fun ns => .lst ((sortI ns).map .int)
  | _ => none
def listP : List PV → Option PV
  | [.lst xs] => some (.lst xs)
  | [.src xs] => some (.lst xs)
  | [.tup xs] => some (.lst xs)
  | _ => none
def tupleP : List PV → Option PV
  | [.lst xs] => some (.tup xs)
  | [.tup xs] => some (.tup xs)
  | _ => none
def strP : List PV → Option PV
  | [.int i] => if -(2 ^ 1000) < i ∧ i < 2 ^ 1000 then some (.str (toString i)) else none
  | _ => none
def tyName : PV → Option String
  | .non => some "NoneType" | .bl _ => some "bool" | .int _ => some "int" | .str _ => some "str"
  | .tup _ => some "tuple" | .lst _ => some "list" | .src _ => some "list" | .dct _ => some "dict"
  | _ => none
/-- isinstance of built-in classes -/
def isaT (a b : String) : Option Bool :=
  if b = "int" ∨ b = "str" ∨ b = "tuple" ∨ b = "list" ∨ b = "bool" ∨ b = "dict" then
    some (decide (a = b) || (decide (a = "bool") && decide (b = "int")))
  else none
def isaP : List PV → Option PV
  | [x, .ty n] => (tyName x).bind fun t => (isaT t n).map .bl
  | _ => none
theorem isaT_ok {K : PySem.W.Frag} {x : PV} {t n : String} {b : Bool} (ht : tyName x = some t) (h : isaT t n = some b) : PySem.W.kitOne K (.type t) (.type n) = some b := by
  have ha : t = "NoneType" ∨ t = "bool" ∨ t = "int" ∨ t = "str" ∨ t = "tuple" ∨ t = "list" ∨ t = "dict" := by
    cases x <;> simp only [tyName, Option.some.injEq] at ht <;> first | (subst ht; simp) | cases ht
  refine kit_ty ?_
  unfold isaT at h
  split at h
  · rename_i hb
    cases h
    rcases ha with rfl | rfl | rfl | rfl | rfl | rfl | rfl <;> rcases hb with rfl | rfl | rfl | rfl | rfl | rfl <;> decide +kernel
  · cases h
section
variable {X : Cx} {cl : Nat → Addr}
theorem cv_len : CallV X.K cl (fun xs H Q => ∃ x n, xs = [x] ∧ LenV X.K x H n ∧ Q (.int n) H) lenP := by
  intro W σ Hs H xs us w Q s r e q
  cases r with
  | nil => cases e
  | cons r t =>
    cases t with
    | cons _ _ => cases r <;> cases e
    | nil =>
      cases r with
      | str z =>
        replace e : (if z.length ≤ sizeLine then some (PV.int z.length) else none) = some w := e
        split at e
        · cases e; exact ⟨_, _, rfl, ⟨by assumption, rfl⟩, q.here s (.int _)⟩
        · cases e
      | lst h ra => cases e; exact ⟨_, _, rfl, .inl ⟨_, .of (s _ _ h), rfl⟩, by rw [ra.length]; exact q.here s (.int _)⟩
      | src h ra => cases e; exact ⟨_, _, rfl, .inl ⟨_, s.seqL h, rfl⟩, by rw [ra.length]; exact q.here s (.int _)⟩
      | tup h ra => cases e; exact ⟨_, _, rfl, .inr ⟨_, s.seqT h, rfl⟩, by rw [ra.length]; exact q.here s (.int _)⟩
      | _ => cases e
theorem cv_abs : CallV X.K cl (fun xs H Q => ∃ i, xs = [V.int i] ∧ Q (.int (if i < 0 then -i else i)) H) absP := by
  intro W σ Hs H xs us w Q s r e q
  cases r with
  | nil => cases e
  | cons r t =>
    cases t with
    | cons _ _ => cases r <;> cases e
    | nil =>
      cases r with
      | int i => cases e; exact ⟨i, rfl, q.here s (.int _)⟩
      | _ => cases e
theorem cv_int : CallV X.K cl (fun xs H Q => (∃ i, xs = [V.int i] ∧ Q (.int i) H) ∨ ∃ k, xs = [V.bl k] ∧ Q (.int (if k then 1 else 0)) H) intP := by
  intro W σ Hs H xs us w Q s r e q
  cases r with
  | nil => cases e
  | cons r t =>
    cases t with
    | cons _ _ => cases r <;> cases e
    | nil =>
      cases r with
      | int i => cases e; exact .inl ⟨i, rfl, q.here s (.int _)⟩
      | bl i => cases e; exact .inr ⟨i, rfl, q.here s (.int _)⟩
      | _ => cases e
def rMin2 (K : PySem.W.Frag) : List V → Hp → VK → Prop := fun xs H Q => (∃ i j, xs = [V.int i, V.int j] ∧ Q (.int (if j < i then j else i)) H) ∨ rMin K xs H Q
def rMax2 (K : PySem.W.Frag) : List V → Hp → VK → Prop := fun xs H Q => (∃ i j, xs = [V.int i, V.int j] ∧ Q (.int (if j > i then j else i)) H) ∨ rMax K xs H Q
theorem cr_min2 (hc : X.calm = true) : CallR X (.builtin "min") (rMin2 X.K) := (call_min2 hc).or (cr_min hc)
theorem cr_max2 (hc : X.calm = true) : CallR X (.builtin "max") (rMax2 X.K) := (call_max2 hc).or (cr_max hc)
theorem cv_min : CallV X.K cl (rMin2 X.K) minP := by
  intro W σ Hs H xs us w Q s r e q
  cases r with
  | nil => cases e
  | cons r t =>
    cases t with
    | cons r2 t2 =>
      cases t2 with
      | cons _ _ => cases r <;> cases r2 <;> cases e
      | nil =>
        cases r with
        | int i =>
          cases r2 with
          | int j => cases e; exact .inl ⟨i, j, rfl, q.here s (.int _)⟩
          | _ => cases e
        | _ => cases r2 <;> cases e
    | nil =>
      cases r with
      | @lst a vs xs h ra =>
        replace e : ((intsP xs).bind fun ns => if ns = [] then none else some (PV.int (minL ns))) = some w := e
        rw [Option.bind_eq_some_iff] at e
        obtain ⟨ns, e1, e⟩ := e
        split at e
        · cases e
        · rename_i hn
          cases e
          have z := ra.ints e1
          subst z
          obtain ⟨m1, m2⟩ := minL_ok hn
          refine .inr ⟨_, ns, rfl, .of (s _ _ h), List.length_pos_iff.mpr hn, fun m h1 h2 => ?_⟩
          have em : m = minL ns := Int.le_antisymm (h2 _ m1) (m2 _ h1)
          rw [em]
          exact q.here s (.int _)
      | _ => cases e
theorem cv_max : CallV X.K cl (rMax2 X.K) maxP := by
  intro W σ Hs H xs us w Q s r e q
  cases r with
  | nil => cases e
  | cons r t =>
    cases t with
    | cons r2 t2 =>
      cases t2 with
      | cons _ _ => cases r <;> cases r2 <;> cases e
      | nil =>
        cases r with
        | int i =>
          cases r2 with
          | int j => cases e; exact .inl ⟨i, j, rfl, q.here s (.int _)⟩
          | _ => cases e
        | _ => cases r2 <;> cases e
    | nil =>
      cases r with
      | @lst a vs xs h ra =>
        replace e : ((intsP xs).bind fun ns => if ns = [] then none else some (PV.int (maxL ns))) = some w := e
        rw [Option.bind_eq_some_iff] at e
        obtain ⟨ns, e1, e⟩ := e
        split at e
        · cases e
        · rename_i hn
          cases e
          have z := ra.ints e1
          subst z
          obtain ⟨m1, m2⟩ := maxL_ok hn
          refine .inr ⟨_, ns, rfl, .of (s _ _ h), List.length_pos_iff.mpr hn, fun m h1 h2 => ?_⟩
          have em : m = maxL ns := Int.le_antisymm (m2 _ h1) (h2 _ m1)
          rw [em]
          exact q.here s (.int _)
      | _ => cases e
theorem cv_sum : CallV X.K cl (rSum X.K) sumP := by
  intro W σ Hs H xs us w Q s r e q
  cases r with
  | nil => cases e
  | cons r t =>
    cases t with
    | cons _ _ => cases r <;> cases e
    | nil =>
      cases r with
      | @lst a vs xs h ra =>
        replace e : ((intsP xs).map fun ns => PV.int ns.sum) = some w := e
        rw [Option.map_eq_some_iff] at e
        obtain ⟨ns, e1, rfl⟩ := e
        have z := ra.ints e1
        subst z
        exact ⟨_, ns, rfl, .of (s _ _ h), q.here s (.int _)⟩
      | _ => cases e
theorem rpa_ints {K : PySem.W.Frag} {H : Hp} : ∀ ns : List Int, RpA K cl H (ns.map V.int) (ns.map PV.int)
  | [] => .nil
  | n :: r => .cons (.int n) (rpa_ints r)
theorem cv_sort : CallV X.K cl (rSortedI X.K) sortP := by
  intro W σ Hs H xs us w Q s r e q
  cases r with
  | nil => cases e
  | cons r t =>
    cases t with
    | cons _ _ => cases r <;> cases e
    | nil =>
      cases r with
      | @lst a vs xs h ra =>
        replace e : ((intsP xs).map fun ns => PV.lst ((sortI ns).map .int)) = some w := e
        rw [Option.map_eq_some_iff] at e
        obtain ⟨ns, e1, rfl⟩ := e
        have z := ra.ints e1
        subst z
        refine ⟨_, ns, rfl, .of (s _ _ h), fun ns' p h1 h2 n => ?_⟩
        obtain ⟨g1, g2⟩ := sortI_ok ns
        have ee : ns' = sortI ns := PySem.W.ksm_same (h1.trans g1.symm) h2 g2
        rw [ee]
        exact new_lst q s n (rpa_ints _)
      | _ => cases e
theorem cv_list : CallV X.K cl (fun xs H Q => ∃ p ys, xs = [V.ref p] ∧ (SqL X.K H p ys ∨ SqT X.K H p ys) ∧ ∀ l, H l = none → Q (.ref l) (upd H l (.lst ys))) listP := by
  intro W σ Hs H xs us w Q s r e q
  cases r with
  | nil => cases e
  | cons r t =>
    cases t with
    | cons _ _ => cases r <;> cases e
    | nil =>
      cases r with
      | lst h ra => cases e; exact ⟨_, _, rfl, .inl (.of (s _ _ h)), fun l n => new_lst q s n ra⟩
      | src h ra => cases e; exact ⟨_, _, rfl, .inl (s.seqL h), fun l n => new_lst q s n ra⟩
      | tup h ra => cases e; exact ⟨_, _, rfl, .inr (s.seqT h), fun l n => new_lst q s n ra⟩
      | _ => cases e
theorem cv_tuple : CallV X.K cl (fun xs H Q => ∃ p ys, xs = [V.ref p] ∧ ((SqL X.K H p ys ∧ ∀ l, H l = none → Q (.ref l) (upd H l (.tup ys))) ∨ (SqT X.K H p ys ∧ Q (.ref p) H))) tupleP := by
  intro W σ Hs H xs us w Q s r e q
  cases r with
  | nil => cases e
  | cons r t =>
    cases t with
    | cons _ _ => cases r <;> cases e
    | nil =>
      cases r with
      | lst h ra => cases e; exact ⟨_, _, rfl, .inl ⟨.of (s _ _ h), fun l n => new_tup q s n ra⟩⟩
      | tup h ra => cases e; exact ⟨_, _, rfl, .inr ⟨s.seqT h, q.here s (.tup h ra)⟩⟩
      | _ => cases e
theorem cv_str : CallV X.K cl (fun xs H Q => ∃ i, xs = [V.int i] ∧ i.natAbs.log2 < 1920 ∧ Q (.str (toString i)) H) strP := by
  intro W σ Hs H xs us w Q s r e q
  cases r with
  | nil => cases e
  | cons r t =>
    cases t with
    | cons _ _ => cases r <;> cases e
    | nil =>
      cases r with
      | int i =>
        replace e : (if -(2 ^ 1000) < i ∧ i < 2 ^ 1000 then some (PV.str (toString i)) else none) = some w := e
        split at e
        · rename_i hk
          cases e
          refine ⟨i, rfl, Nat.lt_of_lt_of_le (PySem.Flt.log2_lt_of (k := 1000) (by decide) ?_) (by decide), q.here s (.str _)⟩
          have h1 : (i.natAbs : Int) < ((2 ^ 1000 : Nat) : Int) := by
            rw [Int.natCast_pow]
            have h2 : ((2 : Nat) : Int) ^ 1000 = 2 ^ 1000 := rfl
            rw [h2]
            generalize (2 : Int) ^ 1000 = z at hk
            omega
          exact Int.ofNat_lt.mp h1
        · cases e
      | _ => cases e
theorem tyX_of {Hs H : Hp} {x : V} {u : PV} {t : String} (s : Sub Hs H) (r : Rp X.K cl Hs x u) (e : tyName u = some t) : TyX X.K H x (.type t) := by
  cases r with
  | non => cases e; exact .base .non
  | bl b => cases e; exact .base (.bl b)
  | int b => cases e; exact .base (.int b)
  | str b => cases e; exact .base (.str b)
  | tup h ra =>
    cases e
    rcases s.seqT h with (h | ⟨o, h⟩) | ⟨o, its, n, h1, h2, _⟩
    · exact .base (.tup h)
    · exact .fTuple h
    · exact .kTuple h1 h2
  | lst h ra => cases e; exact .base (.lst (s _ _ h))
  | src h ra =>
    cases e
    rcases s.seqL h with (h | ⟨o, h⟩) | ⟨o, its, n, h1, h2, _⟩
    · exact .base (.lst h)
    · exact .base (.frz h)
    · exact .kList h1 h2
  | dct h ra => cases e; exact .base (.dK (s _ _ h))
  | obj h ra => cases e
  | ty n => cases e
theorem cv_isa : CallV X.K cl (rIsi X.K) isaP := by
  intro W σ Hs H xs us w Q s r e q
  cases r with
  | nil => cases e
  | @cons _ _ u _ r t =>
    cases t with
    | nil => cases e
    | cons r2 t2 =>
      cases t2 with
      | cons _ _ => cases r2 <;> cases e
      | nil =>
        cases r2 with
        | ty n =>
          replace e : ((tyName u).bind fun t => (isaT t n).map PV.bl) = some w := e
          rw [Option.bind_eq_some_iff] at e
          obtain ⟨t, e1, e⟩ := e
          rw [Option.map_eq_some_iff] at e
          obtain ⟨b, e2, rfl⟩ := e
          exact ⟨_, _, _, _, b, rfl, .ty n, tyX_of s r e1, isaT_ok e1 e2, q.here s (.bl b)⟩
        | _ => cases e
theorem ve_ty {W : WX} {x : Str} {n : String} {pos : Pos} (hm : X.mg x = none) (hv : bootBuiltins x = some (.type n)) (hg : Gl X x := by rfl) (hn : x ≠ "__name__" := by decide) (hd : (x == ("__debug__" : Str)) = false := by decide) : PE X (.Name x pos) (tv X.K cl W (eC (.ty n))) :=
  ve_c (pe_bltn (v := .ty n) hg hm hv rfl hn hd) fun _ => .ty n
end
end VL
namespace VL
open PySem PySem.Spec PyProof.Rows L2
/-! ### a def's slots: nothing, a value that stays as it is, a list of the def's own -/
inductive Sl where
  | no | fz (v : PV) | own (xs : List PV)
abbrev Env := List Sl
inductive Out where
  | next (ρ : Env) | brk (ρ : Env) | cont (ρ : Env) | ret (v : PV) | exc (c : Nat) (fs : List (Str × PV)) (ρ : Env) | stuck
/-- what an expression sees that names the slots of bs -/
def vw : List Bool → Env → Ev
  | _, [] => []
  | bs, .no :: ρ => none :: vw bs.tail ρ
  | bs, .fz v :: ρ => some v :: vw bs.tail ρ
  | bs, .own xs :: ρ => (if bs.headD false = true then some (.lst xs) else none) :: vw bs.tail ρ
/-- the own lists among bs stay as they are from now on -/
def fr : List Bool → Env → Env
  | _, [] => []
  | bs, .no :: ρ => .no :: fr bs.tail ρ
  | bs, .fz v :: ρ => .fz v :: fr bs.tail ρ
  | bs, .own xs :: ρ => (if bs.headD false = true then .fz (.lst xs) else .own xs) :: fr bs.tail ρ
mutual
/-- no list within -/
def PV.nol : PV → Bool
  | .non => true | .bl _ => true | .int _ => true | .str _ => true | .ty _ => true
  | .tup xs => PV.nols xs
  | .lst _ => false | .src _ => false | .dct _ => false | .obj _ _ => false
def PV.nols : List PV → Bool
  | [] => true
  | x :: xs => PV.nol x && PV.nols xs
end
def settle (bs : List Bool) (b : Bool) (ρ : Env) : Env := if b = true then ρ else fr bs ρ

section
variable (K : PySem.W.Frag) (cl : Nat → Addr) (He H0 : Hp)
structure SEnv (Hs H : Hp) (σ : St) (ρ : Env) : Prop where
  ext : Ext He H0 Hs H
  len : σ.length = ρ.length
  fz : ∀ (i : Nat) (v : PV), ρ[i]? = some (.fz v) → ∃ x, σ[i]? = some (some x) ∧ Rp K cl Hs x v
  own : ∀ (i : Nat) (xs : List PV), ρ[i]? = some (.own xs) → ∃ a vs, σ[i]? = some (some (.ref a)) ∧ H a = some (.lst vs) ∧ RpA K cl Hs vs xs ∧ Hs a = none ∧ H0 a = none
  inj : ∀ (i j : Nat) (xs ys : List PV) (a : Addr), ρ[i]? = some (.own xs) → ρ[j]? = some (.own ys) → σ[i]? = some (some (.ref a)) → σ[j]? = some (some (.ref a)) → i = j
variable (W : WX)
def Post (Hs : Hp) (D : Ends) : Out → Prop
  | .next ρ => ∀ σ Hs' H', Sub Hs Hs' → SEnv K cl He H0 Hs' H' σ ρ → D.nx σ H'
  | .brk ρ => ∀ σ Hs' H', Sub Hs Hs' → SEnv K cl He H0 Hs' H' σ ρ → D.bk σ H'
  | .cont ρ => ∀ σ Hs' H', Sub Hs Hs' → SEnv K cl He H0 Hs' H' σ ρ → D.ct σ H'
  | .ret v => ∀ x Hs' H', Ext He H0 Hs' H' → Rp K cl Hs' x v → D.rt x H'
  | .exc c fs ρ => ∀ σ Hs' H' d fvs, Sub Hs Hs' → SEnv K cl He H0 Hs' H' σ ρ → Hs' d = some (.xd fvs) → RpF K cl Hs' fvs fs → W (.ref (cl c)) (some d) σ H'
  | .stuck => False
def ts (s : Env → Out) : TS := fun D σ H => ∃ Hs ρ, SEnv K cl He H0 Hs H σ ρ ∧ Post K cl He H0 W Hs D (s ρ)
end

section
variable {K : PySem.W.Frag} {cl : Nat → Addr} {He H0 : Hp} {W : WX} {Hs Hs1 H H1 : Hp} {σ : St} {ρ : Env} {D : Ends} {o : Out}
theorem Post.up (h : Post K cl He H0 W Hs D o) (s : Sub Hs Hs1) : Post K cl He H0 W Hs1 D o := by
  cases o with
  | next ρ => exact fun σ Hs' H' t => h σ Hs' H' (s.trans t)
  | brk ρ => exact fun σ Hs' H' t => h σ Hs' H' (s.trans t)
  | cont ρ => exact fun σ Hs' H' t => h σ Hs' H' (s.trans t)
  | ret v => exact h
  | exc c fs ρ => exact fun σ Hs' H' d fvs t => h σ Hs' H' d fvs (s.trans t)
  | stuck => exact h
theorem SEnv.sub (S : SEnv K cl He H0 Hs H σ ρ) : Sub Hs H := S.ext.sub

/-! the slots that are seen -/
theorem vw_fz : ∀ {bs : List Bool} {ρ : Env} {i : Nat} {v : PV}, (vw bs ρ)[i]? = some (some v) → ρ[i]? = some (.fz v) ∨ ∃ xs, ρ[i]? = some (.own xs) ∧ bs[i]? = some true ∧ v = .lst xs
  | bs, [], i, v, h => by simp [vw] at h
  | bs, .no :: ρ, 0, v, h => by simp [vw] at h
  | bs, .fz u :: ρ, 0, v, h => by simp [vw] at h; subst h; exact .inl rfl
  | [], .own xs :: ρ, 0, v, h => by simp [vw] at h
  | b :: bs, .own xs :: ρ, 0, v, h => by
    cases b with
    | true => simp [vw] at h; subst h; exact .inr ⟨xs, rfl, rfl, rfl⟩
    | false => simp [vw] at h
  | bs, s :: ρ, i + 1, v, h => by
    have h' : (vw bs.tail ρ)[i]? = some (some v) := by cases s <;> simpa [vw] using h
    rcases vw_fz h' with e | ⟨xs, e1, e2, e3⟩
    · exact .inl (by simpa using e)
    · refine .inr ⟨xs, by simpa using e1, ?_, e3⟩
      cases bs with
      | nil => simp at e2
      | cons b bs => simpa using e2
theorem vw_len : ∀ (bs : List Bool) (ρ : Env), (vw bs ρ).length = ρ.length
  | _, [] => rfl
  | bs, .no :: ρ => by simp [vw, vw_len]
  | bs, .fz v :: ρ => by simp [vw, vw_len]
  | bs, .own v :: ρ => by simp [vw, vw_len]
theorem fr_len : ∀ (bs : List Bool) (ρ : Env), (fr bs ρ).length = ρ.length
  | _, [] => rfl
  | bs, .no :: ρ => by simp [fr, fr_len]
  | bs, .fz v :: ρ => by simp [fr, fr_len]
  | bs, .own v :: ρ => by simp [fr, fr_len]
theorem fr_own : ∀ {bs : List Bool} {ρ : Env} {i : Nat} {xs : List PV}, (fr bs ρ)[i]? = some (.own xs) → ρ[i]? = some (.own xs) ∧ bs[i]? ≠ some true
  | bs, [], i, v, h => by simp [fr] at h
  | bs, .no :: ρ, 0, v, h => by simp [fr] at h
  | bs, .fz u :: ρ, 0, v, h => by simp [fr] at h
  | [], .own xs :: ρ, 0, v, h => by simp [fr] at h; subst h; exact ⟨rfl, by simp⟩
  | b :: bs, .own xs :: ρ, 0, v, h => by
    cases b with
    | true => simp [fr] at h
    | false => simp [fr] at h; subst h; exact ⟨rfl, by simp⟩
  | bs, s :: ρ, i + 1, v, h => by
    have h' : (fr bs.tail ρ)[i]? = some (.own v) := by cases s <;> simpa [fr] using h
    obtain ⟨e1, e2⟩ := fr_own h'
    refine ⟨by simpa using e1, fun z => e2 ?_⟩
    cases bs with
    | nil => simp at z
    | cons b bs => simpa using z
theorem fr_fz : ∀ {bs : List Bool} {ρ : Env} {i : Nat} {v : PV}, (fr bs ρ)[i]? = some (.fz v) → ρ[i]? = some (.fz v) ∨ ∃ xs, ρ[i]? = some (.own xs) ∧ bs[i]? = some true ∧ v = .lst xs
  | bs, [], i, v, h => by simp [fr] at h
  | bs, .no :: ρ, 0, v, h => by simp [fr] at h
  | bs, .fz u :: ρ, 0, v, h => by simp [fr] at h; subst h; exact .inl rfl
  | [], .own xs :: ρ, 0, v, h => by simp [fr] at h
  | b :: bs, .own xs :: ρ, 0, v, h => by
    cases b with
    | true => simp [fr] at h; subst h; exact .inr ⟨xs, rfl, rfl, rfl⟩
    | false => simp [fr] at h
  | bs, s :: ρ, i + 1, v, h => by
    have h' : (fr bs.tail ρ)[i]? = some (.fz v) := by cases s <;> simpa [fr] using h
    rcases fr_fz h' with e | ⟨xs, e1, e2, e3⟩
    · exact .inl (by simpa using e)
    · refine .inr ⟨xs, by simpa using e1, ?_, e3⟩
      cases bs with
      | nil => simp at e2
      | cons b bs => simpa using e2

/-! the own lists that are seen stand as if they stayed -/
def isOwn (bs : List Bool) (ρ : Env) (σ : St) (a : Addr) : Prop := ∃ (i : Nat) (xs : List PV), bs[i]? = some true ∧ ρ[i]? = some (Sl.own xs) ∧ σ[i]? = some (some (V.ref a))
open Classical in
noncomputable def plus (P : Addr → Prop) (Hs H : Hp) : Hp := fun a => if P a then H a else Hs a
open Classical in
noncomputable def cut (P : Addr → Prop) (Hs : Hp) : Hp := fun a => if P a then none else Hs a
theorem plus_yes {P : Addr → Prop} {a : Addr} (h : P a) : plus P Hs H a = H a := if_pos h
theorem plus_no {P : Addr → Prop} {a : Addr} (h : ¬ P a) : plus P Hs H a = Hs a := if_neg h
theorem cut_yes {P : Addr → Prop} {a : Addr} (h : P a) : cut P Hs a = none := if_pos h
theorem cut_no {P : Addr → Prop} {a : Addr} (h : ¬ P a) : cut P Hs a = Hs a := if_neg h
theorem SEnv.ownAt (S : SEnv K cl He H0 Hs H σ ρ) {bs : List Bool} {a : Addr} (h : isOwn bs ρ σ a) : (∃ vs, H a = some (.lst vs)) ∧ Hs a = none ∧ H0 a = none := by
  obtain ⟨i, xs, _, h1, h2⟩ := h
  obtain ⟨b, vs, e1, e2, _, e3, e4⟩ := S.own i xs h1
  rw [h2] at e1
  cases e1
  exact ⟨⟨vs, e2⟩, e3, e4⟩
theorem SEnv.plusExt (S : SEnv K cl He H0 Hs H σ ρ) (bs : List Bool) : Sub Hs (plus (isOwn bs ρ σ) Hs H) ∧ Sub (plus (isOwn bs ρ σ) Hs H) H ∧ ∀ a, H0 a ≠ none → He a = none → plus (isOwn bs ρ σ) Hs H a = none := by
  refine ⟨fun a o h => ?_, fun a o h => ?_, fun a h n => ?_⟩
  · by_cases p : isOwn bs ρ σ a
    · rw [(S.ownAt p).2.1] at h; cases h
    · rw [plus_no p]; exact h
  · by_cases p : isOwn bs ρ σ a
    · rw [plus_yes p] at h; exact h
    · rw [plus_no p] at h; exact S.sub a o h
  · by_cases p : isOwn bs ρ σ a
    · exact absurd (S.ownAt p).2.2 h
    · rw [plus_no p]; exact S.ext.nw a h n
theorem SEnv.pe (S : SEnv K cl He H0 Hs H σ ρ) (bs : List Bool) : PEnv K cl (plus (isOwn bs ρ σ) Hs H) H σ (vw bs ρ) := by
  obtain ⟨s1, s2, _⟩ := S.plusExt bs
  refine ⟨s2, by rw [vw_len, S.len], fun i v h => ?_⟩
  rcases vw_fz h with e | ⟨xs, e1, e2, rfl⟩
  · obtain ⟨x, e3, r⟩ := S.fz i v e
    exact ⟨x, e3, r.mono s1⟩
  · obtain ⟨a, vs, e3, e4, r, _, _⟩ := S.own i xs e1
    refine ⟨.ref a, e3, .lst ?_ (r.mono s1)⟩
    rw [plus_yes ⟨i, xs, e2, e1, e3⟩]
    exact e4
/-- behind an expression: what was seen stays -/
theorem SEnv.froze (S : SEnv K cl He H0 Hs H σ ρ) {bs : List Bool} (x : Ext (plus (isOwn bs ρ σ) Hs H) H Hs1 H1) : SEnv K cl He H0 Hs1 H1 σ (fr bs ρ) := by
  obtain ⟨s1, s2, s3⟩ := S.plusExt bs
  refine ⟨Ext.trans ⟨S.ext.fs.trans s1, s2, S.ext.same, s3⟩ x, by rw [fr_len]; exact S.len, fun i v h => ?_, fun i xs h => ?_, fun i j xs ys a h1 h2 => S.inj i j xs ys a (fr_own h1).1 (fr_own h2).1⟩
  · rcases fr_fz h with e | ⟨xs, e1, e2, rfl⟩
    · obtain ⟨y, e3, r⟩ := S.fz i v e
      exact ⟨y, e3, (r.mono s1).mono x.fs⟩
    · obtain ⟨a, vs, e3, e4, r, _, _⟩ := S.own i xs e1
      refine ⟨.ref a, e3, .lst (x.fs _ _ ?_) ((r.mono s1).mono x.fs)⟩
      rw [plus_yes ⟨i, xs, e2, e1, e3⟩]
      exact e4
  · obtain ⟨h1, h2⟩ := fr_own h
    obtain ⟨a, vs, e3, e4, r, e5, e6⟩ := S.own i xs h1
    refine ⟨a, vs, e3, x.same _ _ e4, (r.mono s1).mono x.fs, x.nw a (by rw [e4]; simp) ?_, e6⟩
    rw [plus_no]
    · exact e5
    · rintro ⟨j, ys, g1, g2, g3⟩
      have := S.inj j i ys xs a g2 h1 g3 e3
      subst this
      exact h2 g1
/-- .. or is the def's own again -/
theorem SEnv.back (S : SEnv K cl He H0 Hs H σ ρ) {bs : List Bool} (x : Ext (plus (isOwn bs ρ σ) Hs H) H Hs1 H1) : SEnv K cl He H0 (cut (isOwn bs ρ σ) Hs1) H1 σ ρ ∧ Sub Hs (cut (isOwn bs ρ σ) Hs1) := by
  obtain ⟨s1, s2, s3⟩ := S.plusExt bs
  have up : Sub Hs (cut (isOwn bs ρ σ) Hs1) := fun a o h => by
    rw [cut_no]
    · exact x.fs _ _ (s1 a o h)
    · intro p
      rw [(S.ownAt p).2.1] at h; cases h
  refine ⟨⟨⟨S.ext.fs.trans up, fun a o h => ?_, S.ext.same.trans x.same, fun a h n => ?_⟩, S.len, fun i v h => ?_, fun i xs h => ?_, S.inj⟩, up⟩
  · by_cases p : isOwn bs ρ σ a
    · rw [cut_yes p] at h; cases h
    · rw [cut_no p] at h; exact x.sub a o h
  · by_cases p : isOwn bs ρ σ a
    · exact cut_yes p
    · rw [cut_no p]
      refine x.nw a (fun z => ?_) (s3 a h n)
      cases q : H0 a with
      | none => exact h q
      | some o => rw [S.ext.same a o q] at z; cases z
  · obtain ⟨y, e3, r⟩ := S.fz i v h
    exact ⟨y, e3, r.mono up⟩
  · obtain ⟨a, vs, e3, e4, r, e5, e6⟩ := S.own i xs h
    refine ⟨a, vs, e3, x.same _ _ e4, r.mono up, ?_, e6⟩
    by_cases p : isOwn bs ρ σ a
    · exact cut_yes p
    · rw [cut_no p]
      exact x.nw a (by rw [e4]; simp) (by rw [plus_no p]; exact e5)
/-- a value without a list leans on no list -/
structure NoL (P : Addr → Prop) (Hs : Hp) : Prop where
  l : ∀ a, P a → ∃ vs, Hs a = some (HO.lst vs)
theorem NoL.tup {P : Addr → Prop} (n : NoL P Hs) {a : Addr} {vs : List V} (h : SqT K Hs a vs) : SqT K (cut P Hs) a vs := by
  rcases h with (h | ⟨o, h⟩) | h
  · refine .inl (.inl ?_)
    rw [cut_no]
    · exact h
    · intro p
      obtain ⟨ws, e⟩ := n.l a p
      rw [h] at e; cases e
  · refine .inl (.inr ⟨o, ?_⟩)
    rw [cut_no]
    · exact h
    · intro p
      obtain ⟨ws, e⟩ := n.l a p
      rw [h] at e; cases e
  · exact .inr h
mutual
theorem Rp.nolist {P : Addr → Prop} (n : NoL P Hs) : ∀ {v : V} {x : PV}, Rp K cl Hs v x → x.nol = true → Rp K cl (cut P Hs) v x
  | _, _, .non, _ => .non
  | _, _, .bl b, _ => .bl b
  | _, _, .int b, _ => .int b
  | _, _, .str b, _ => .str b
  | _, _, .ty b, _ => .ty b
  | _, _, .tup h r, e => .tup (n.tup h) (r.nolist n (by simpa [PV.nol] using e))
  | _, _, .lst h r, e => by simp [PV.nol] at e
  | _, _, .src h r, e => by simp [PV.nol] at e
  | _, _, .dct h r, e => by simp [PV.nol] at e
  | _, _, .obj h r, e => by simp [PV.nol] at e
theorem RpA.nolist {P : Addr → Prop} (n : NoL P Hs) : ∀ {v : List V} {x : List PV}, RpA K cl Hs v x → PV.nols x = true → RpA K cl (cut P Hs) v x
  | _, _, .nil, _ => .nil
  | _, _, .cons h r, e => by
    simp only [PV.nols, Bool.and_eq_true] at e
    exact .cons (h.nolist n e.1) (r.nolist n e.2)
end
/-- a way of bearing that goes with a test «no list» -/
structure Bears (K : PySem.W.Frag) (cl : Nat → Addr) {α β : Type} (rel : Hp → β → α → Prop) (nl : α → Bool) : Prop where
  cut : ∀ {P : Addr → Prop} {Hs : Hp} {x : β} {v : α}, NoL P Hs → rel Hs x v → nl v = true → rel (cut P Hs) x v
theorem bears_v : Bears K cl (Rp K cl) PV.nol := ⟨fun n r e => r.nolist n e⟩
theorem bears_a : Bears K cl (RpA K cl) PV.nols := ⟨fun n r e => r.nolist n e⟩
theorem bears_b : Bears K cl (fun _ b c => b = (c : Bool)) (fun _ => true) := ⟨fun _ r _ => r⟩
/-- an expression within a statement -/
def onE {α : Type} (nl : α → Bool) (f : Ev → R α) (bs : List Bool) (ρ : Env) (k : α → Env → Out) : Out := match f (vw bs ρ) with
  | .ok v => k v (settle bs (nl v) ρ)
  | .exc c fs => .exc c fs (fr bs ρ)
  | .stuck => .stuck
theorem onE_use {α β : Type} {rel : Hp → β → α → Prop} {nl : α → Bool} (B : Bears K cl rel nl) {f : Ev → R α} {bs : List Bool} {k : α → Env → Out} {Q : β → Hp → Prop} (S : SEnv K cl He H0 Hs H σ ρ) (h : Post K cl He H0 W Hs D (onE nl f bs ρ k))
    (hk : ∀ v x Hs1 H1 ρ1, Sub Hs Hs1 → SEnv K cl He H0 Hs1 H1 σ ρ1 → rel Hs1 x v → f (vw bs ρ) = .ok v → ρ1 = settle bs (nl v) ρ → Sub H H1 → Post K cl He H0 W Hs1 D (k v ρ1) → Q x H1) : gv K cl rel W f σ H Q := by
  refine ⟨_, _, S.pe bs, ?_⟩
  unfold onE at h
  have s1 := (S.plusExt bs).1
  cases e : f (vw bs ρ) with
  | ok v =>
    rw [e] at h
    replace h : Post K cl He H0 W Hs D (k v (settle bs (nl v) ρ)) := h
    intro x Hs1 H1 X r
    cases en : nl v with
    | false =>
      have es : settle bs (nl v) ρ = fr bs ρ := by unfold settle; rw [en]; rfl
      have up := s1.trans X.fs
      exact hk v x Hs1 H1 _ up (by rw [es]; exact S.froze X) r e rfl X.same (Post.up h up)
    | true =>
      have es : settle bs (nl v) ρ = ρ := by unfold settle; rw [en]; rfl
      obtain ⟨S1, up⟩ := S.back X
      refine hk v x _ H1 _ up (by rw [es]; exact S1) (B.cut ⟨fun a p => ?_⟩ r en) e rfl X.same (Post.up h up)
      obtain ⟨vs, e1⟩ := (S.ownAt p).1
      exact ⟨vs, X.fs _ _ (by rw [plus_yes p]; exact e1)⟩
  | exc c fs =>
    rw [e] at h
    intro d fvs Hs1 H1 X e1 r
    exact h σ Hs1 H1 d fvs (s1.trans X.fs) (S.froze X) e1 r
  | stuck => rw [e] at h; exact h

/-! changes of the slots -/
theorem SEnv.set (S : SEnv K cl He H0 Hs H σ ρ) {x : V} {v : PV} (r : Rp K cl Hs x v) (i : Nat) : SEnv K cl He H0 Hs H (σ.set i (some x)) (ρ.set i (.fz v)) := by
  have get : ∀ {j : Nat} {s : Sl}, (ρ.set i (.fz v))[j]? = some s → (j = i ∧ s = .fz v ∧ i < σ.length) ∨ (j ≠ i ∧ ρ[j]? = some s) := fun {j s} h => by
    by_cases e : i = j
    · subst e
      by_cases hl : i < ρ.length
      · rw [List.getElem?_set_self hl] at h
        cases h
        exact .inl ⟨rfl, rfl, by rw [S.len]; exact hl⟩
      · rw [List.getElem?_eq_none (by simpa using hl)] at h; cases h
    · rw [List.getElem?_set_ne e] at h
      exact .inr ⟨Ne.symm e, h⟩
  refine ⟨S.ext, by simpa using S.len, fun j u h => ?_, fun j xs h => ?_, fun j k xs ys a h1 h2 g1 g2 => ?_⟩
  · rcases get h with ⟨e1, e2, hl⟩ | ⟨e1, h⟩
    · cases e2; subst e1
      exact ⟨x, List.getElem?_set_self hl, r⟩
    · rw [List.getElem?_set_ne (Ne.symm e1)]
      exact S.fz j u h
  · rcases get h with ⟨_, e2, _⟩ | ⟨e1, h⟩
    · cases e2
    · rw [List.getElem?_set_ne (Ne.symm e1)]
      exact S.own j xs h
  · rcases get h1 with ⟨_, e2, _⟩ | ⟨e1, h1⟩
    · cases e2
    · rcases get h2 with ⟨_, e2, _⟩ | ⟨e2, h2⟩
      · cases e2
      · rw [List.getElem?_set_ne (Ne.symm e1)] at g1
        rw [List.getElem?_set_ne (Ne.symm e2)] at g2
        exact S.inj j k xs ys a h1 h2 g1 g2
theorem SEnv.setOwn (S : SEnv K cl He H0 Hs H σ ρ) {a : Addr} {vs : List V} {xs : List PV} (e : H a = some (.lst vs)) (r : RpA K cl Hs vs xs) (n1 : Hs a = none) (n2 : H0 a = none)
    (new : ∀ (j : Nat) (ys : List PV), ρ[j]? = some (Sl.own ys) → σ[j]? ≠ some (some (V.ref a))) (i : Nat) : SEnv K cl He H0 Hs H (σ.set i (some (.ref a))) (ρ.set i (.own xs)) := by
  have get : ∀ {j : Nat} {s : Sl}, (ρ.set i (.own xs))[j]? = some s → (j = i ∧ s = .own xs ∧ i < σ.length) ∨ (j ≠ i ∧ ρ[j]? = some s) := fun {j s} h => by
    by_cases e : i = j
    · subst e
      by_cases hl : i < ρ.length
      · rw [List.getElem?_set_self hl] at h
        cases h
        exact .inl ⟨rfl, rfl, by rw [S.len]; exact hl⟩
      · rw [List.getElem?_eq_none (by simpa using hl)] at h; cases h
    · rw [List.getElem?_set_ne e] at h
      exact .inr ⟨Ne.symm e, h⟩
  refine ⟨S.ext, by simpa using S.len, fun j u h => ?_, fun j ys h => ?_, fun j k ys zs b h1 h2 g1 g2 => ?_⟩
  · rcases get h with ⟨_, e2, _⟩ | ⟨e1, h⟩
    · cases e2
    · rw [List.getElem?_set_ne (Ne.symm e1)]
      exact S.fz j u h
  · rcases get h with ⟨e1, e2, hl⟩ | ⟨e1, h⟩
    · cases e2; subst e1
      exact ⟨a, vs, List.getElem?_set_self hl, e, r, n1, n2⟩
    · rw [List.getElem?_set_ne (Ne.symm e1)]
      exact S.own j ys h
  · rcases get h1 with ⟨e1, _, hl⟩ | ⟨e1, k1⟩
    · rcases get h2 with ⟨e2, _, _⟩ | ⟨e2, k2⟩
      · rw [e1, e2]
      · rw [e1, List.getElem?_set_self hl] at g1
        rw [List.getElem?_set_ne (Ne.symm e2)] at g2
        cases g1
        exact absurd g2 (new k zs k2)
    · rcases get h2 with ⟨e2, _, hl⟩ | ⟨e2, k2⟩
      · rw [e2, List.getElem?_set_self hl] at g2
        rw [List.getElem?_set_ne (Ne.symm e1)] at g1
        cases g2
        exact absurd g1 (new j ys k1)
      · rw [List.getElem?_set_ne (Ne.symm e1)] at g1
        rw [List.getElem?_set_ne (Ne.symm e2)] at g2
        exact S.inj j k ys zs b k1 k2 g1 g2
/-- an own list is changed -/
theorem SEnv.put (S : SEnv K cl He H0 Hs H σ ρ) {i : Nat} {xs ys : List PV} {a : Addr} {ws : List V} (h : ρ[i]? = some (.own xs)) (hσ : σ[i]? = some (some (.ref a))) (r : RpA K cl Hs ws ys) :
    SEnv K cl He H0 Hs (upd H a (.lst ws)) σ (ρ.set i (.own ys)) := by
  obtain ⟨b, vs, e1, e2, _, e3, e4⟩ := S.own i xs h
  rw [hσ] at e1
  cases e1
  have hl : i < ρ.length := (List.getElem?_eq_some_iff.mp h).1
  have get : ∀ {j : Nat} {s : Sl}, (ρ.set i (.own ys))[j]? = some s → (j = i ∧ s = .own ys) ∨ (j ≠ i ∧ ρ[j]? = some s) := fun {j s} h => by
    by_cases e : i = j
    · subst e
      rw [List.getElem?_set_self hl] at h
      cases h
      exact .inl ⟨rfl, rfl⟩
    · rw [List.getElem?_set_ne e] at h
      exact .inr ⟨Ne.symm e, h⟩
  refine ⟨⟨S.ext.fs, S.sub.upd e3, S.ext.same.upd e4, S.ext.nw⟩, by simpa using S.len, fun j u h' => ?_, fun j zs h' => ?_, fun j k us zs c h1 h2 g1 g2 => ?_⟩
  · rcases get h' with ⟨_, e2⟩ | ⟨_, h'⟩
    · cases e2
    · exact S.fz j u h'
  · rcases get h' with ⟨e5, e6⟩ | ⟨e5, h'⟩
    · cases e6; subst e5
      exact ⟨a, ws, hσ, upd_same, r, e3, e4⟩
    · obtain ⟨c, us, g1, g2, g3, g4, g5⟩ := S.own j zs h'
      refine ⟨c, us, g1, ?_, g3, g4, g5⟩
      rw [upd_ne]
      · exact g2
      · rintro rfl
        exact e5 (S.inj j i zs xs c h' h g1 hσ)
  · rcases get h1 with ⟨e5, _⟩ | ⟨e5, k1⟩ <;> rcases get h2 with ⟨e6, _⟩ | ⟨e6, k2⟩
    · rw [e5, e6]
    · rw [e5] at g1 ⊢; exact S.inj i k xs zs c h k2 g1 g2
    · rw [e6] at g2 ⊢; exact S.inj j i us xs c k1 h g1 g2
    · exact S.inj j k us zs c k1 k2 g1 g2
end
end VL
namespace VL
open PySem PySem.Spec PyProof.Rows L2
/-! ### a list that was just made -/
section
variable (K : PySem.W.Frag) (cl : Nat → Addr) (W : WX)
def GO (Hs H : Hp) (σ : St) (r : R (List PV)) (Q : VK) : Prop := match r with
  | .ok xs => ∀ a vs Hs' H', Ext Hs H Hs' H' → H' a = some (.lst vs) → Hs' a = none → H a = none → RpA K cl Hs' vs xs → Q (.ref a) H'
  | .exc c fs => ∀ d fvs Hs' H', Ext Hs H Hs' H' → Hs' d = some (.xd fvs) → RpF K cl Hs' fvs fs → W (.ref (cl c)) (some d) σ H'
  | .stuck => False
def to (f : Ev → R (List PV)) : TE := fun σ H Q => ∃ Hs ρ, PEnv K cl Hs H σ ρ ∧ GO K cl W Hs H σ (f ρ) Q
end
section
variable {K : PySem.W.Frag} {cl : Nat → Addr} {W : WX} {Hs Hs1 H H1 : Hp} {σ : St} {ρ : Ev}
theorem GO.up {r : R (List PV)} {Q : VK} (h : GO K cl W Hs H σ r Q) (s : Ext Hs H Hs1 H1) : GO K cl W Hs1 H1 σ r Q := by
  cases r with
  | ok v => exact fun a vs Hs' H' t e n1 n2 => h a vs Hs' H' (s.trans t) e n1 (by
      cases q : H a with
      | none => rfl
      | some o => rw [s.same a o q] at n2; cases n2)
  | exc c fs => exact fun d fvs Hs' H' t => h d fvs Hs' H' (s.trans t)
  | stuck => exact h
theorem go_bind {α β : Type} {rel : Hp → β → α → Prop} {Q : β → Hp → Prop} {f : Ev → R α} {k : α → R (List PV)} {Q' : VK} (E : PEnv K cl Hs H σ ρ) (h : GO K cl W Hs H σ ((f ρ).bind k) Q')
    (hk : ∀ v x Hs1 H1, f ρ = .ok v → Ext Hs H Hs1 H1 → rel Hs1 x v → GO K cl W Hs1 H1 σ (k v) Q' → Q x H1) : gv K cl rel W f σ H Q := by
  refine ⟨Hs, ρ, E, ?_⟩
  cases e : f ρ with
  | ok v =>
    rw [e] at h
    exact fun x Hs1 H1 s1 rx => hk v x Hs1 H1 e s1 rx (GO.up h s1)
  | exc c fs => rw [e] at h; exact h
  | stuck => rw [e] at h; exact h
theorem own_lst {p : Addr} {vs : List V} {xs : List PV} {Q : VK} (h : GO K cl W Hs H σ (.ok xs) Q) (s : Sub Hs H) (n : H p = none) (r : RpA K cl Hs vs xs) : Q (.ref p) (upd H p (.lst vs)) :=
  h p vs Hs _ (Ext.newO s n) upd_same (s.none n) n r
end
def eLst1 (fs : List Ex) : Ev → R (List PV) := fun ρ => (evs fs ρ).bind fun xs => if xs.length ≤ sizeLine then .ok xs else .stuck
def asLst (f : Ev → R (List PV)) : Ex := fun ρ => (f ρ).bind fun xs => .ok (.lst xs)
def lstOf : Option PV → R (List PV)
  | some (.lst xs) => .ok xs
  | _ => .stuck
section
variable {X : Cx} {cl : Nat → Addr} {W : WX} {pos : Pos} {a b : Expr} {f f' : Ex}
theorem vo_lst {es : List Expr} {fs : List Ex} (h : PA X es (ta X.K cl W (evs fs))) : PE X (.List es pos) (to X.K cl W (eLst1 fs)) :=
  peWeak (pe_lst h) fun σ H Q ⟨Hs, ρ, E, h⟩ => by
    refine go_bind E h fun v x Hs1 H1 _ s1 rx h1 => ?_
    split at h1
    · exact ⟨by rw [rx.length]; assumption, fun p n => own_lst h1 s1.sub n rx⟩
    · exact h1.elim
/-- a list made by an operation -/
def eO2 (g : PV → PV → Option PV) (a b : Ex) : Ev → R (List PV) := fun ρ => (a ρ).bind fun x => (b ρ).bind fun y => lstOf (g x y)
theorem vo_add (ha : PE X a (tv X.K cl W f)) (hb : PE X b (tv X.K cl W f')) : PE X (.BinOp a .Add b pos) (to X.K cl W (eO2 addP f f')) :=
  peWeak (pe_op op_cat ha hb) fun σ H Q ⟨Hs, ρ, E, h⟩ => by
    refine go_bind E h fun v x Hs1 H1 _ s1 rx h1 => ?_
    refine go_bind (E.up s1) h1 fun u y Hs2 H2 _ t1 ry h2 => ?_
    have rx2 := rx.mono t1.fs
    cases rx2 with
    | @lst a vs xs h ra =>
      cases ry with
      | @lst b ws ys h' rb =>
        replace h2 : GO X.K cl W Hs2 H2 σ (lstOf (if xs.length + ys.length ≤ sizeLine then some (PV.lst (xs ++ ys)) else none)) Q := h2
        split at h2
        · exact ⟨_, _, _, _, rfl, rfl, t1.sub _ _ h, t1.sub _ _ h', by rw [ra.length, rb.length]; assumption, fun p n => own_lst h2 t1.sub n (ra.append rb)⟩
        · exact h2.elim
      | _ => exact h2.elim
    | int i =>
      cases ry with
      | _ => exact h2.elim
    | str i =>
      cases ry with
      | str j =>
        replace h2 : GO X.K cl W Hs2 H2 σ (lstOf (if i.length + j.length ≤ sizeLine then some (PV.str (i ++ j)) else none)) Q := h2
        split at h2 <;> exact h2.elim
      | _ => exact h2.elim
    | @tup a vs xs h ra =>
      cases ry with
      | @tup b ws ys h' rb =>
        replace h2 : GO X.K cl W Hs2 H2 σ (lstOf (if xs.length + ys.length ≤ sizeLine then some (PV.tup (xs ++ ys)) else none)) Q := h2
        split at h2 <;> exact h2.elim
      | _ => exact h2.elim
    | _ => cases ry <;> exact h2.elim
theorem vo_mul (ha : PE X a (tv X.K cl W f)) (hb : PE X b (tv X.K cl W f')) : PE X (.BinOp a .Mult b pos) (to X.K cl W (eO2 mulP f f')) :=
  peWeak (pe_op op_rep ha hb) fun σ H Q ⟨Hs, ρ, E, h⟩ => by
    refine go_bind E h fun v x Hs1 H1 _ s1 rx h1 => ?_
    refine go_bind (E.up s1) h1 fun u y Hs2 H2 _ t1 ry h2 => ?_
    have rx2 := rx.mono t1.fs
    cases rx2 with
    | @lst a vs xs h ra =>
      cases ry with
      | int k =>
        replace h2 : GO X.K cl W Hs2 H2 σ (lstOf (if -(2 ^ 63) ≤ k ∧ k < 2 ^ 63 ∧ xs.length * k.toNat ≤ sizeLine then some (PV.lst (List.replicate k.toNat xs).flatten) else none)) Q := h2
        split at h2
        · rename_i hk
          exact ⟨_, _, _, rfl, rfl, t1.sub _ _ h, hk.1, hk.2.1, by rw [ra.length]; exact hk.2.2, fun p n => own_lst h2 t1.sub n (ra.rep _)⟩
        · exact h2.elim
      | _ => exact h2.elim
    | int i =>
      cases ry with
      | int j =>
        replace h2 : GO X.K cl W Hs2 H2 σ (lstOf (if mulOk i j = true then some (PV.int (i * j)) else none)) Q := h2
        split at h2 <;> exact h2.elim
      | _ => exact h2.elim
    | _ => cases ry <;> exact h2.elim
def eOsl (a : Ex) (lo hi : Pt) : Ev → R (List PV) := fun ρ => (a ρ).bind fun x => (lo ρ).bind fun l => (hi ρ).bind fun h => match x with
  | .lst xs => .ok (cutP xs l h)
  | .src xs => .ok (cutP xs l h)
  | _ => .stuck
theorem vo_slice {e : Expr} {lo hi : Option Expr} {p2 : Pos} {l h : Pt} (ha : PE X e (tv X.K cl W f)) (hl : PO X lo (tpt X.K cl W l)) (hh : PO X hi (tpt X.K cl W h)) : PE X (.Subscript e (.Slice lo hi none p2) pos) (to X.K cl W (eOsl f l h)) :=
  peWeak (pe_slice sl_list ha hl hh) fun σ H Q ⟨Hs, ρ, E, h⟩ => by
    refine go_bind E h fun v x Hs1 H1 _ s1 rx h1 => ?_
    refine go_bind (E.up s1) h1 fun l1 l2 Hs2 H2 _ t1 el h2 => ?_
    refine go_bind ((E.up s1).up t1) h2 fun u1 u2 Hs3 H3 _ w1 eu h3 => ?_
    subst el eu
    have rx3 := (rx.mono t1.fs).mono w1.fs
    cases rx3 with
    | lst h ra => exact ⟨_, _, rfl, .of (w1.sub _ _ h), fun p n => own_lst h3 w1.sub n (ra.cut _ _)⟩
    | src h ra => exact ⟨_, _, rfl, w1.sub.seqL h, fun p n => own_lst h3 w1.sub n (ra.cut _ _)⟩
    | _ => exact h3.elim
def eOlist (a : Ex) : Ev → R (List PV) := fun ρ => (a ρ).bind fun x => lstOf (listP [x])
theorem vo_list {p : Pos} (ha : PE X a (tv X.K cl W f)) (hm : X.mg "list" = none) (hgl : Gl X "list" := by rfl) (he : starEach (a :: []) X.env = (false, eval a X.env) :: starEach [] X.env := by rfl) (hpl : (backTo pos (starEach [] X.env)).any (·.1) = false := by rfl) : PE X (.Call (.Name "list" p) [a] [] pos) (to X.K cl W (eOlist f)) :=
  peWeak (pe_callTy call_list_of hgl hm boot_list (pa_cons ha pa_nil he) (he := he) (hpl := hpl)) fun σ H Q ⟨Hs, ρ, E, h⟩ => by
    refine go_bind E h fun v x Hs1 H1 _ s1 rx h1 => ?_
    cases rx with
    | lst h ra => exact ⟨_, _, rfl, .inl (.of (s1.sub _ _ h)), fun p n => own_lst h1 s1.sub n ra⟩
    | src h ra => exact ⟨_, _, rfl, .inl (s1.sub.seqL h), fun p n => own_lst h1 s1.sub n ra⟩
    | tup h ra => exact ⟨_, _, rfl, .inr (s1.sub.seqT h), fun p n => own_lst h1 s1.sub n ra⟩
    | _ => exact h1.elim
/-- .. as a value that stays -/
theorem ve_ofO {e : Expr} {g : Ev → R (List PV)} (h : PE X e (to X.K cl W g)) : PE X e (tv X.K cl W (asLst g)) :=
  peWeak h fun σ H Q ⟨Hs, ρ, E, h⟩ => by
    refine ⟨Hs, ρ, E, ?_⟩
    unfold asLst at h
    cases e : g ρ with
    | ok xs =>
      rw [e] at h
      intro a vs Hs' H' s e1 n1 n2 r
      have n' : Hs a = none := by
        cases q : Hs a with
        | none => rfl
        | some o => rw [s.fs a o q] at n1; cases n1
      refine h _ (upd Hs' a (.lst vs)) H' ⟨s.fs.trans (Sub.new n1), fun b o q => ?_, s.same, fun b hb n => ?_⟩ (.lst upd_same (r.mono (Sub.new n1)))
      · by_cases hb : b = a
        · subst hb; rw [upd_same] at q; rw [e1]; exact q
        · rw [upd_ne hb] at q; exact s.sub b o q
      · rw [upd_ne (fun z => hb (by rw [z]; exact n2))]
        exact s.nw b hb n
    | exc c fs => rw [e] at h; exact h
    | stuck => rw [e] at h; exact h
end

/-! ### what is walked -/
structure Wk (K : PySem.W.Frag) (cl : Nat → Addr) (Hs : Hp) (J : It) (xs : List PV) : Prop where
  go : ∀ (i : Nat) H Hs', Sub Hs Hs' → Sub Hs' H → i < xs.length → J.go i H
  stop : ∀ (i : Nat) H Hs', Sub Hs Hs' → Sub Hs' H → xs.length ≤ i → J.stop i H
  yld : ∀ (i : Nat) x H H' Hs' v, Sub Hs Hs' → Sub Hs' H → xs[i]? = some v → J.yld i H x H' → ∃ Hs'', Ext Hs' H Hs'' H' ∧ Rp K cl Hs'' x v
/-- .. whatever the heap -/
def WkA (K : PySem.W.Frag) (cl : Nat → Addr) (_ : Hp) (J : It) (xs : List PV) : Prop := ∀ Hs, Wk K cl Hs J xs
theorem bears_wk {K : PySem.W.Frag} {cl : Nat → Addr} : Bears K cl (Wk K cl) (fun _ => false) := ⟨fun _ _ e => Bool.noConfusion e⟩
theorem bears_wkA {K : PySem.W.Frag} {cl : Nat → Addr} : Bears K cl (WkA K cl) (fun _ => true) := ⟨fun _ r _ => r⟩
section
variable {K : PySem.W.Frag} {cl : Nat → Addr} {Hs : Hp}
theorem wk_list {a : Addr} {vs : List V} {xs : List PV} (h : SqL K Hs a vs) (r : RpA K cl Hs vs xs) : Wk K cl Hs (Itl K a) xs := by
  refine ⟨fun i H Hs' s1 s2 hi => ?_, fun i H Hs' s1 s2 hi => ⟨vs, (s1.trans s2).seqL h, by rw [r.length]; exact hi⟩, fun i x H H' Hs' v s1 s2 e y => ?_⟩
  · rw [← r.length] at hi
    exact ⟨vs, vs[i], (s1.trans s2).seqL h, by simp [hi]⟩
  · obtain ⟨e1, y⟩ := y
    subst e1
    obtain ⟨u, e2, ru⟩ := r.get e
    have e3 := y vs ((s1.trans s2).seqL h)
    rw [e2] at e3
    cases e3
    exact ⟨Hs', Ext.refl s2, ru.mono s1⟩
theorem wk_tup {a : Addr} {vs : List V} {xs : List PV} (h : SqT K Hs a vs) (r : RpA K cl Hs vs xs) : Wk K cl Hs (Itt K a) xs := by
  refine ⟨fun i H Hs' s1 s2 hi => ?_, fun i H Hs' s1 s2 hi => ⟨vs, (s1.trans s2).seqT h, by rw [r.length]; exact hi⟩, fun i x H H' Hs' v s1 s2 e y => ?_⟩
  · rw [← r.length] at hi
    exact ⟨vs, vs[i], (s1.trans s2).seqT h, by simp [hi]⟩
  · obtain ⟨e1, y⟩ := y
    subst e1
    obtain ⟨u, e2, ru⟩ := r.get e
    have e3 := y vs ((s1.trans s2).seqT h)
    rw [e2] at e3
    cases e3
    exact ⟨Hs', Ext.refl s2, ru.mono s1⟩
def signsP (z : Str) : List PV := z.cps.toList.map fun c => .str ⟨#[c]⟩
theorem wk_str {z : Str} : Wk K cl Hs (Its z) (signsP z) := by
  have hl : (signsP z).length = z.cps.size := by simp [signsP]
  refine ⟨fun i H Hs' s1 s2 hi => by rw [hl] at hi; exact hi, fun i H Hs' s1 s2 hi => by rw [hl] at hi; exact hi, fun i x H H' Hs' v s1 s2 e y => ?_⟩
  obtain ⟨e1, c, e2, e3⟩ := y
  subst e1 e3
  refine ⟨Hs', Ext.refl s2, ?_⟩
  unfold signsP at e
  rw [List.getElem?_map] at e
  have e4 : z.cps.toList[i]? = some c := by simpa using e2
  rw [e4] at e
  cases e
  exact .str _
def rangeP (lo : Int) (n : Nat) : List PV := (List.range n).map fun (i : Nat) => .int (lo + (i : Int))
theorem wk_range {lo : Int} {n : Nat} : Wk K cl Hs (Itr lo n) (rangeP lo n) := by
  have hl : (rangeP lo n).length = n := by simp [rangeP]
  refine ⟨fun i H Hs' s1 s2 hi => by rw [hl] at hi; exact hi, fun i H Hs' s1 s2 hi => by rw [hl] at hi; exact hi, fun i x H H' Hs' v s1 s2 e y => ?_⟩
  obtain ⟨e1, e2⟩ := y
  subst e1 e2
  refine ⟨Hs', Ext.refl s2, ?_⟩
  have hi : i < n := by
    have := (List.getElem?_eq_some_iff.mp e).1
    rw [hl] at this
    exact this
  unfold rangeP at e
  rw [List.getElem?_map, List.getElem?_range hi] at e
  cases e
  exact .int _
def zipP (xs ys : List PV) : List PV := List.zipWith (fun x y => .tup [x, y]) xs ys
theorem wk_zip {a b : Addr} {vs ws : List V} {xs ys : List PV} (h : SqL K Hs a vs) (h' : SqL K Hs b ws) (r : RpA K cl Hs vs xs) (r' : RpA K cl Hs ws ys) : Wk K cl Hs (Itz K a b) (zipP xs ys) := by
  have hl : (zipP xs ys).length = min xs.length ys.length := by simp [zipP]
  refine ⟨fun i H Hs' s1 s2 hi => ?_, fun i H Hs' s1 s2 hi => ?_, fun i x H H' Hs' v s1 s2 e y => ?_⟩
  · rw [hl] at hi
    have h1 : i < vs.length := by rw [r.length]; omega
    have h2 : i < ws.length := by rw [r'.length]; omega
    exact ⟨vs, ws, vs[i], ws[i], (s1.trans s2).seqL h, (s1.trans s2).seqL h', by simp [h1], by simp [h2]⟩
  · rw [hl] at hi
    exact ⟨vs, ws, (s1.trans s2).seqL h, (s1.trans s2).seqL h', by rw [r.length, r'.length]; omega⟩
  · obtain ⟨T, x1, y1, rfl, n, rfl, f1, f2⟩ := y
    unfold zipP at e
    rw [List.getElem?_zipWith] at e
    cases ex : xs[i]? with
    | none => rw [ex] at e; simp at e
    | some xv =>
      cases ey : ys[i]? with
      | none => rw [ex, ey] at e; simp at e
      | some yv =>
        rw [ex, ey] at e
        simp at e
        subst e
        obtain ⟨u, e2, ru⟩ := r.get ex
        obtain ⟨u', e2', ru'⟩ := r'.get ey
        have e3 := f1 vs ((s1.trans s2).seqL h)
        have e3' := f2 ws ((s1.trans s2).seqL h')
        rw [e2] at e3; cases e3
        rw [e2'] at e3'; cases e3'
        have n' : Hs' T = none := s2.none n
        refine ⟨upd Hs' T (.tup [x1, y1]), Ext.new s2 n, .tup (.of upd_same) ?_⟩
        exact .cons ((ru.mono s1).mono (Sub.new n')) (.cons ((ru'.mono s1).mono (Sub.new n')) .nil)
def enumP (i : Nat) : List PV → List PV
  | [] => []
  | x :: r => .tup [.int (i : Int), x] :: enumP (i + 1) r
theorem enumP_len : ∀ (xs : List PV) (i : Nat), (enumP i xs).length = xs.length
  | [], _ => rfl
  | x :: r, i => by simp [enumP, enumP_len r]
theorem enumP_get : ∀ (xs : List PV) (i k : Nat) (v : PV), (enumP i xs)[k]? = some v → ∃ x, xs[k]? = some x ∧ v = .tup [.int ((i + k : Nat) : Int), x]
  | [], _, _, _, h => by simp [enumP] at h
  | x :: r, i, 0, v, h => by simp [enumP] at h; exact ⟨x, rfl, by simp [← h]⟩
  | x :: r, i, k + 1, v, h => by
    obtain ⟨y, e1, e2⟩ := enumP_get r (i + 1) k v (by simpa [enumP] using h)
    exact ⟨y, by simpa using e1, by rw [e2, show i + 1 + k = i + (k + 1) by omega]⟩
theorem wk_enum {a : Addr} {vs : List V} {xs : List PV} (h : SqL K Hs a vs) (r : RpA K cl Hs vs xs) : Wk K cl Hs (Ite K a) (enumP 0 xs) := by
  refine ⟨fun i H Hs' s1 s2 hi => ?_, fun i H Hs' s1 s2 hi => ⟨vs, (s1.trans s2).seqL h, by rw [r.length, ← enumP_len xs 0]; exact hi⟩, fun i x H H' Hs' v s1 s2 e y => ?_⟩
  · rw [enumP_len, ← r.length] at hi
    exact ⟨vs, vs[i], (s1.trans s2).seqL h, by simp [hi]⟩
  · obtain ⟨T, x1, rfl, n, rfl, f1⟩ := y
    obtain ⟨xv, ex, rfl⟩ := enumP_get _ _ _ _ e
    obtain ⟨u, e2, ru⟩ := r.get ex
    have e3 := f1 vs ((s1.trans s2).seqL h)
    rw [e2] at e3; cases e3
    have n' : Hs' T = none := s2.none n
    refine ⟨upd Hs' T (.tup [.int (i : Nat), x1]), Ext.new s2 n, .tup (.of upd_same) (.cons ?_ (.cons ((ru.mono s1).mono (Sub.new n')) .nil))⟩
    rw [Nat.zero_add]
    exact .int _
end
theorem piWeak {X : Cx} {tg e : Expr} {t t' : TI} (h : PI X tg e t) (w : ∀ σ H Q, t' σ H Q → t σ H Q) : PI X tg e t' := ⟨fun pins s σ H R I q => h.run pins s σ H R I (w σ H R q)⟩
theorem piOr {X : Cx} {tg e : Expr} {t t' : TI} (h : PI X tg e t) (h' : PI X tg e t') : PI X tg e (fun σ H R => t σ H R ∨ t' σ H R) := ⟨fun pins s σ H R I q => q.elim (h.run pins s σ H R I) (h'.run pins s σ H R I)⟩
/-- the items of a list, a tuple, a text -/
def itemsP : PV → R (List PV)
  | .lst xs => .ok xs
  | .src xs => .ok xs
  | .tup xs => .ok xs
  | .str z => .ok (signsP z)
  | _ => .stuck
def iSeq (a : Ex) : Ev → R (List PV) := fun ρ => (a ρ).bind itemsP
def iR1 (a : Ex) : Ev → R (List PV) := fun ρ => (a ρ).bind fun x => match x with
  | .int j => if -(2 ^ 62) ≤ j ∧ j < 2 ^ 62 then .ok (rangeP 0 j.toNat) else .stuck
  | _ => .stuck
def iR2 (a b : Ex) : Ev → R (List PV) := fun ρ => (a ρ).bind fun x => (b ρ).bind fun y => match x, y with
  | .int i, .int j => if -(2 ^ 62) ≤ i ∧ i < 2 ^ 62 ∧ -(2 ^ 62) ≤ j ∧ j < 2 ^ 62 then .ok (rangeP i (j - i).toNat) else .stuck
  | _, _ => .stuck
def iZipP (a b : Ex) : Ev → R (List PV) := fun ρ => (a ρ).bind fun x => (b ρ).bind fun y => match x, y with
  | .lst xs, .lst ys => .ok (zipP xs ys)
  | _, _ => .stuck
def iEnumP (a : Ex) : Ev → R (List PV) := fun ρ => (a ρ).bind fun x => match x with
  | .lst xs => .ok (enumP 0 xs)
  | _ => .stuck
section
variable {X : Cx} {cl : Nat → Addr} {W : WX} {pos p : Pos} {tg a b : Expr} {f f' : Ex}
theorem vi_seq (h : PE X a (tv X.K cl W f)) : PI X tg a (gv X.K cl (Wk X.K cl) W (iSeq f)) :=
  piWeak (piOr (piOr (pi_list h) (pi_tup h)) (pi_str h)) fun σ H Q ⟨Hs, ρ, E, h⟩ => by
    have go : ∀ {P : V → Hp → Prop}, (∀ v x Hs1 H1, f ρ = .ok v → Ext Hs H Hs1 H1 → Rp X.K cl Hs1 x v → GP X.K cl (Wk X.K cl) W Hs1 H1 σ (itemsP v) Q → P x H1) → tv X.K cl W f σ H P := fun {P} hk => gv_bind E h hk
    unfold iSeq at h
    cases e : f ρ with
    | ok v =>
      cases v with
      | lst xs =>
        refine .inl (.inl (go fun v x Hs1 H1 e1 s1 rx h1 => ?_))
        rw [e] at e1; cases e1
        cases rx with
        | lst h ra => exact ⟨_, rfl, ⟨_, .of (s1.sub _ _ h)⟩, h1.here s1.sub (wk_list (.of h) ra)⟩
      | src xs =>
        refine .inl (.inl (go fun v x Hs1 H1 e1 s1 rx h1 => ?_))
        rw [e] at e1; cases e1
        cases rx with
        | src h ra => exact ⟨_, rfl, ⟨_, s1.sub.seqL h⟩, h1.here s1.sub (wk_list h ra)⟩
      | tup xs =>
        refine .inl (.inr (go fun v x Hs1 H1 e1 s1 rx h1 => ?_))
        rw [e] at e1; cases e1
        cases rx with
        | tup h ra => exact ⟨_, rfl, ⟨_, s1.sub.seqT h⟩, h1.here s1.sub (wk_tup h ra)⟩
      | str z =>
        refine .inr (go fun v x Hs1 H1 e1 s1 rx h1 => ?_)
        rw [e] at e1; cases e1
        cases rx with
        | str z => exact ⟨_, rfl, h1.here s1.sub wk_str⟩
      | _ => rw [e] at h; exact h.elim
    | exc c fs => exact .inr (go fun v x Hs1 H1 e1 s1 rx h1 => by rw [e] at e1; cases e1)
    | stuck => rw [e] at h; exact h.elim
theorem vi_r1 (h : PE X a (tv X.K cl W f)) (hm : X.mg "range" = none) (hg : Gl X "range" := by rfl) (hs : starEach [a] X.env = [(false, eval a X.env)] := by rfl) : PI X tg (.Call (.Name "range" p) [a] [] pos) (gv X.K cl (WkA X.K cl) W (iR1 f)) :=
  piWeak (pi_range1 hg hm (pa_cons h pa_nil hs) hs) fun σ H Q ⟨Hs, ρ, E, h⟩ => by
    refine gv_bind E h fun v x Hs1 H1 e1 s1 rx h1 => ?_
    cases rx with
    | int j =>
      replace h1 : GP X.K cl (WkA X.K cl) W Hs1 H1 σ (if -(2 ^ 62) ≤ j ∧ j < 2 ^ 62 then .ok (rangeP 0 j.toNat) else .stuck) Q := h1
      split at h1
      · rename_i hk
        exact ⟨j, rfl, hk.1, hk.2, h1.here s1.sub fun _ => wk_range⟩
      · exact h1.elim
    | _ => exact h1.elim
theorem vi_r2 (h : PE X a (tv X.K cl W f)) (h' : PE X b (tv X.K cl W f')) (hm : X.mg "range" = none) (hg : Gl X "range" := by rfl) (hs : starEach [a, b] X.env = [(false, eval a X.env), (false, eval b X.env)] := by rfl) (hs2 : starEach [b] X.env = [(false, eval b X.env)] := by rfl) :
    PI X tg (.Call (.Name "range" p) [a, b] [] pos) (gv X.K cl (WkA X.K cl) W (iR2 f f')) :=
  piWeak (pi_range2 hg hm (pa_cons h (pa_cons h' pa_nil hs2) (by rw [hs, hs2])) hs hs2) fun σ H Q ⟨Hs, ρ, E, h⟩ => by
    refine gv_bind E h fun v x Hs1 H1 e1 s1 rx h1 => ?_
    refine gv_bind (E.up s1) h1 fun u y Hs2 H2 e2 t1 ry h2 => ?_
    cases rx with
    | int i =>
      cases ry with
      | int j =>
        replace h2 : GP X.K cl (WkA X.K cl) W Hs2 H2 σ (if -(2 ^ 62) ≤ i ∧ i < 2 ^ 62 ∧ -(2 ^ 62) ≤ j ∧ j < 2 ^ 62 then .ok (rangeP i (j - i).toNat) else .stuck) Q := h2
        split at h2
        · rename_i hk
          exact ⟨i, j, rfl, hk, h2.here t1.sub fun _ => wk_range⟩
        · exact h2.elim
      | _ => exact h2.elim
    | _ => cases ry <;> exact h2.elim
theorem vi_zip {elts : List Expr} {kk : Nat} {tpos : Pos} (h : PE X a (tv X.K cl W f)) (h' : PE X b (tv X.K cl W f')) (hm : X.mg "zip" = none) (hg : Gl X "zip" := by rfl) (hs : starEach [a, b] X.env = (false, eval a X.env) :: starEach [b] X.env := by rfl) (hs2 : starEach [b] X.env = [(false, eval b X.env)] := by rfl)
    (hpl : (backTo pos (starEach [b] X.env)).any (·.1) = false := by rfl) : PI X (.Tuple elts kk tpos) (.Call (.Name "zip" p) [a, b] [] pos) (gv X.K cl (Wk X.K cl) W (iZipP f f')) :=
  piWeak (pi_zip hg hm (pa_cons h (pa_cons h' pa_nil hs2) hs) hs hpl) fun σ H Q ⟨Hs, ρ, E, h⟩ => by
    refine gv_bind E h fun v x Hs1 H1 e1 s1 rx h1 => ?_
    refine gv_bind (E.up s1) h1 fun u y Hs2 H2 e2 t1 ry h2 => ?_
    have rx2 := rx.mono t1.fs
    cases rx2 with
    | lst h ra =>
      cases ry with
      | lst h' rb => exact ⟨_, _, _, _, rfl, .of (t1.sub _ _ h), .of (t1.sub _ _ h'), h2.here t1.sub (wk_zip (.of h) (.of h') ra rb)⟩
      | _ => exact h2.elim
    | _ => cases ry <;> exact h2.elim
theorem vi_enum {elts : List Expr} {kk : Nat} {tpos : Pos} (h : PE X a (tv X.K cl W f)) (hm : X.mg "enumerate" = none) (hg : Gl X "enumerate" := by rfl) (hs : starEach [a] X.env = [(false, eval a X.env)] := by rfl) :
    PI X (.Tuple elts kk tpos) (.Call (.Name "enumerate" p) [a] [] pos) (gv X.K cl (Wk X.K cl) W (iEnumP f)) :=
  piWeak (pi_enum hg hm (pa_cons h pa_nil hs) hs) fun σ H Q ⟨Hs, ρ, E, h⟩ => by
    refine gv_bind E h fun v x Hs1 H1 e1 s1 rx h1 => ?_
    cases rx with
    | lst h ra => exact ⟨_, _, rfl, .of (s1.sub _ _ h), h1.here s1.sub (wk_enum (.of h) ra)⟩
    | _ => exact h1.elim
end

/-! ### targets -/
abbrev As := List (Nat × PV)
abbrev Tg := PV → Option As
def tN (i : Nat) : Tg := fun v => some [(i, v)]
def tTs : List Tg → List PV → Option As
  | [], [] => some []
  | t :: ts, v :: vs => (t v).bind fun a => (tTs ts vs).map (a ++ ·)
  | _, _ => none
def tT (ts : List Tg) : Tg
  | .tup vs => tTs ts vs
  | _ => none
def setV : List (Nat × V) → St → St
  | [], σ => σ
  | (i, x) :: r, σ => setV r (σ.set i (some x))
def setS : As → Env → Env
  | [], ρ => ρ
  | (i, v) :: r, ρ => setS r (ρ.set i (.fz v))
def setE : As → Ev → Ev
  | [], ρ => ρ
  | (i, v) :: r, ρ => setE r (ρ.set i (some v))
inductive RelAs (K : PySem.W.Frag) (cl : Nat → Addr) (Hs : Hp) : List (Nat × V) → As → Prop
  | nil : RelAs K cl Hs [] []
  | cons {i : Nat} {x : V} {v : PV} {xs : List (Nat × V)} {vs : As} : Rp K cl Hs x v → RelAs K cl Hs xs vs → RelAs K cl Hs ((i, x) :: xs) ((i, v) :: vs)
section
variable {K : PySem.W.Frag} {cl : Nat → Addr} {Hs H : Hp}
theorem RelAs.append {a b : List (Nat × V)} {c d : As} (h : RelAs K cl Hs a c) (h' : RelAs K cl Hs b d) : RelAs K cl Hs (a ++ b) (c ++ d) := by
  induction h with
  | nil => exact h'
  | cons r _ ih => exact .cons r ih
theorem setV_append : ∀ (a b : List (Nat × V)) (σ : St), setV (a ++ b) σ = setV b (setV a σ)
  | [], _, _ => rfl
  | (i, x) :: r, b, σ => setV_append r b _
theorem SEnv.sets {He H0 : Hp} : ∀ {xs : List (Nat × V)} {as : As} {σ : St} {ρ : Env}, SEnv K cl He H0 Hs H σ ρ → RelAs K cl Hs xs as → SEnv K cl He H0 Hs H (setV xs σ) (setS as ρ)
  | _, _, _, _, S, .nil => S
  | _, _, σ, ρ, S, .cons (i := i) (x := x) (v := v) r t => SEnv.sets (σ := σ.set i (some x)) (ρ := ρ.set i (.fz v)) (S.set r i) t
theorem PEnv.set {σ : St} {ρ : Ev} (E : PEnv K cl Hs H σ ρ) {x : V} {v : PV} (r : Rp K cl Hs x v) (i : Nat) : PEnv K cl Hs H (σ.set i (some x)) (ρ.set i (some v)) := by
  have hl := E.len
  refine ⟨E.sub, by simpa using hl, fun j u h => ?_⟩
  by_cases e : i = j
  · subst e
    by_cases hi : i < ρ.length
    · rw [List.getElem?_set_self hi] at h
      cases h
      exact ⟨x, List.getElem?_set_self (by rw [← hl]; exact hi), r⟩
    · rw [List.getElem?_eq_none (by simpa using hi)] at h; cases h
  · rw [List.getElem?_set_ne e] at h ⊢
    exact E.at_ j u h
theorem PEnv.sets : ∀ {xs : List (Nat × V)} {as : As} {σ : St} {ρ : Ev}, PEnv K cl Hs H σ ρ → RelAs K cl Hs xs as → PEnv K cl Hs H (setV xs σ) (setE as ρ)
  | _, _, _, _, E, .nil => E
  | _, _, σ, ρ, E, .cons (i := i) (x := x) (v := v) r t => PEnv.sets (σ := σ.set i (some x)) (ρ := ρ.set i (some v)) (E.set r i) t
end
/-- a target's rule and what it stores -/
def TgOk (K : PySem.W.Frag) (cl : Nat → Addr) (g : TG) (t : Tg) : Prop := ∀ (Hs H : Hp) (σ : St) (x : V) (v : PV) (as : As) (Q : St → Hp → Prop), Sub Hs H → Rp K cl Hs x v → t v = some as → (∀ xs, RelAs K cl Hs xs as → Q (setV xs σ) H) → g x σ H Q
def TgsOk (K : PySem.W.Frag) (cl : Nat → Addr) (g : TGs) (t : List PV → Option As) : Prop := ∀ (Hs H : Hp) (σ : St) (xs : List V) (vs : List PV) (as : As) (Q : St → Hp → Prop), Sub Hs H → RpA K cl Hs xs vs → t vs = some as → (∀ xs, RelAs K cl Hs xs as → Q (setV xs σ) H) → g xs σ H Q
section
variable {K : PySem.W.Frag} {cl : Nat → Addr}
theorem tg_name (i : Nat) : TgOk K cl (gName i) (tN i) := fun Hs H σ x v as Q _ r e q => by
  cases e
  exact q [(i, x)] (.cons r .nil)
theorem tgs_nil : TgsOk K cl gNil (tTs []) := fun Hs H σ xs vs as Q _ r e q => by
  cases r with
  | nil => cases e; exact ⟨rfl, q [] .nil⟩
  | cons _ _ => cases e
theorem tgs_cons {g : TG} {gs : TGs} {t : Tg} {ts : List Tg} (h : TgOk K cl g t) (hs : TgsOk K cl gs (tTs ts)) : TgsOk K cl (gCons g gs) (tTs (t :: ts)) := fun Hs H σ xs vs as Q s r e q => by
  cases r with
  | nil => cases e
  | cons r t =>
    simp only [tTs, Option.bind_eq_some_iff, Option.map_eq_some_iff] at e
    obtain ⟨a, e1, b, e2, rfl⟩ := e
    exact ⟨_, _, rfl, h Hs H σ _ _ a _ s r e1 fun xs rx => hs Hs H _ _ _ b Q s t e2 fun ys ry => by rw [← setV_append]; exact q _ (rx.append ry)⟩
theorem tTs_len : ∀ {ts : List Tg} {vs : List PV} {as : As}, tTs ts vs = some as → vs.length = ts.length
  | [], [], _, _ => rfl
  | [], _ :: _, _, h => by cases h
  | _ :: _, [], _, h => by cases h
  | t :: ts, v :: vs, _, h => by
    simp only [tTs, Option.bind_eq_some_iff, Option.map_eq_some_iff] at h
    obtain ⟨a, e1, b, e2, rfl⟩ := h
    simp [tTs_len e2]
theorem tg_tup {gs : TGs} {ts : List Tg} {n : Nat} (hs : TgsOk K cl gs (tTs ts)) (hn : ts.length = n := by rfl) : TgOk K cl (gTup K n gs) (tT ts) := fun Hs H σ x v as Q s r e q => by
  cases r with
  | tup h ra => exact ⟨_, _, rfl, s.seqT h, by rw [ra.length, tTs_len e, hn], hs Hs H σ _ _ as Q s ra e q⟩
  | _ => cases e
end
/-- the slots that a target may store -/
def TgIn (t : Tg) (own : List Nat) : Prop := ∀ v as, t v = some as → ∀ p ∈ as, p.1 ∈ own
theorem tin_n {i : Nat} {own : List Nat} (h : i ∈ own) : TgIn (tN i) own := fun v as e p hp => by
  cases e
  simp at hp
  subst hp
  exact h
theorem tin_ts {own : List Nat} : ∀ {ts : List Tg}, (∀ t ∈ ts, TgIn t own) → ∀ vs as, tTs ts vs = some as → ∀ p ∈ as, p.1 ∈ own
  | [], _, [], _, e, p, hp => by cases e; simp at hp
  | [], _, _ :: _, _, e, _, _ => by cases e
  | _ :: _, _, [], _, e, _, _ => by cases e
  | t :: ts, h, v :: vs, _, e, p, hp => by
    simp only [tTs, Option.bind_eq_some_iff, Option.map_eq_some_iff] at e
    obtain ⟨a, e1, b, e2, rfl⟩ := e
    rcases List.mem_append.mp hp with hp | hp
    · exact h t List.mem_cons_self v a e1 p hp
    · exact tin_ts (fun t ht => h t (List.mem_cons_of_mem _ ht)) vs b e2 p hp
theorem tin_t {ts : List Tg} {own : List Nat} (h : ∀ t ∈ ts, TgIn t own) : TgIn (tT ts) own := fun v as e => by
  cases v with
  | tup vs => exact tin_ts h vs as e
  | _ => cases e

/-! ### comprehensions -/
def wipeE (ρ : Ev) : List Nat → Ev
  | [] => ρ
  | v :: vs => (wipeE ρ vs).set v none
theorem wipeE_len (ρ : Ev) : ∀ vs, (wipeE ρ vs).length = ρ.length
  | [] => rfl
  | v :: vs => by simp [wipeE, wipeE_len ρ vs]
def lcL (t : Tg) (c : Ev → R Bool) (e : Ex) (ρ : Ev) : List PV → R (List PV)
  | [] => .ok []
  | v :: vs => match t v with
    | none => .stuck
    | some as => match c (setE as ρ) with
      | .ok true => match e (setE as ρ) with
        | .ok y => match lcL t c e ρ vs with
          | .ok ys => .ok (y :: ys)
          | _ => .stuck
        | _ => .stuck
      | .ok false => lcL t c e ρ vs
      | _ => .stuck
def szO : R (List PV) → R (List PV)
  | .ok ys => if ys.length ≤ sizeLine then .ok ys else .stuck
  | _ => .stuck
def eLc (own : List Nat) (t : Tg) (it : Ev → R (List PV)) (c : Ev → R Bool) (e : Ex) : Ev → R (List PV) := fun ρ => (it ρ).bind fun xs => szO (lcL t c e (wipeE ρ own) xs)
def cYes : Ev → R Bool := fun _ => .ok true
theorem wipe_set {σ : St} {i : Nat} {x : Option V} : ∀ {vs : List Nat}, i ∈ vs → wipe (σ.set i x) vs = wipe σ vs
  | v :: vs, h => by
    unfold wipe
    by_cases e : i ∈ vs
    · rw [wipe_set e]
    · have e2 : i = v := by rcases List.mem_cons.mp h with h | h; exact h; exact absurd h e
      subst e2
      have gen : ∀ (ws : List Nat), i ∉ ws → wipe (σ.set i x) ws = (wipe σ ws).set i x := by
        intro ws
        induction ws with
        | nil => intro _; rfl
        | cons w ws ih =>
          intro hw
          simp only [List.mem_cons, not_or] at hw
          unfold wipe
          rw [ih hw.2, List.set_comm _ _ hw.1]
      rw [gen vs e, List.set_set]
theorem wipe_setV : ∀ (xs : List (Nat × V)) (σ : St) (vs : List Nat), (∀ p ∈ xs, p.1 ∈ vs) → wipe (setV xs σ) vs = wipe σ vs
  | [], _, _, _ => rfl
  | (i, x) :: r, σ, vs, h => by
    show wipe (setV r (σ.set i (some x))) vs = _
    rw [wipe_setV r _ vs fun p hp => h p (List.mem_cons_of_mem _ hp), wipe_set (h (i, x) List.mem_cons_self)]
theorem wipe_wipe (σ : St) (vs : List Nat) : wipe (wipe σ vs) vs = wipe σ vs := by
  have gen : ∀ (ws : List Nat), (∀ w ∈ ws, w ∈ vs) → wipe (wipe σ ws) vs = wipe σ vs := by
    intro ws
    induction ws with
    | nil => intro _; rfl
    | cons w ws ih =>
      intro h
      show wipe ((wipe σ ws).set w none) vs = _
      rw [wipe_set (h w List.mem_cons_self)]
      exact ih fun w hw => h w (List.mem_cons_of_mem _ hw)
  exact gen vs fun _ h => h
theorem RelAs.fst {K : PySem.W.Frag} {cl : Nat → Addr} {Hs : Hp} {xs : List (Nat × V)} {as : As} (h : RelAs K cl Hs xs as) : ∀ p ∈ xs, ∃ q ∈ as, q.1 = p.1 := by
  induction h with
  | nil => intro p hp; simp at hp
  | cons r _ ih =>
    intro p hp
    rcases List.mem_cons.mp hp with rfl | hp
    · exact ⟨_, List.mem_cons_self, rfl⟩
    · obtain ⟨q, h1, h2⟩ := ih p hp
      exact ⟨q, List.mem_cons_of_mem _ h1, h2⟩
section
variable {K : PySem.W.Frag} {cl : Nat → Addr} {Hs H : Hp}
theorem PEnv.wipe {σ : St} {ρ : Ev} (E : PEnv K cl Hs H σ ρ) : ∀ vs : List Nat, PEnv K cl Hs H (L2.wipe σ vs) (wipeE ρ vs)
  | [] => E
  | v :: vs => by
    have ih := E.wipe vs
    refine ⟨E.sub, by rw [wipeE_len, wipe_length]; exact E.len, fun i u h => ?_⟩
    have h : ((wipeE ρ vs).set v none)[i]? = some (some u) := h
    show ∃ x, ((L2.wipe σ vs).set v none)[i]? = some (some x) ∧ _
    by_cases e : v = i
    · subst e
      by_cases hi : v < (wipeE ρ vs).length
      · rw [List.getElem?_set_self hi] at h; cases h
      · rw [List.getElem?_eq_none (by simpa using hi)] at h; cases h
    · rw [List.getElem?_set_ne e] at h ⊢
      exact ih.at_ i u h
end
/-- nothing raised is wished for -/
abbrev W0 : WX := fun _ _ _ _ => False
section
variable {X : Cx} {cl : Nat → Addr} {W : WX} {pos : Pos}
theorem vts_nil {c : Cx} : PTs c [] (tt c.K cl W0 cYes) := ⟨fun pins s σ H Q I hw => pts_nil.run pins s σ H Q I (by
  obtain ⟨Hs, ρ, E, h⟩ := hw
  exact GP.here (x := true) h E.sub rfl)⟩
theorem vts_one {c : Cx} {e : Expr} {t : Ev → R Bool} (h : PT c e (tt c.K cl W0 t)) : PTs c [e] (tt c.K cl W0 t) := pts_one h
theorem lc_use {rel : Hp → It → List PV → Prop} {it : Ev → R (List PV)} {g : TG} {t : Tg} {c : Ev → R Bool} {e : Ex} {own : List Nat} (hR : ∀ Hs J xs, rel Hs J xs → Wk X.K cl Hs J xs) (hG : TgOk X.K cl g t) (hI : TgIn t own) {σ : St} {H : Hp} {Q : VK}
    (h : to X.K cl W (eLc own t it c e) σ H Q) : tLc (gv X.K cl rel W it) g (tt X.K cl W0 c) (tv X.K cl W0 e) own σ H Q := by
  obtain ⟨Hs, ρ, E, h⟩ := h
  refine go_bind E h fun xs J Hs1 H1 e1 s1 rx h1 => ?_
  have Wj := hR _ _ _ rx
  intro D hD
  have E1 := (E.up s1).wipe own
  -- the result is told
  cases e2 : lcL t c e (wipeE ρ own) xs with
  | exc c' fs => rw [e2] at h1; exact h1.elim
  | stuck => rw [e2] at h1; exact h1.elim
  | ok ys =>
    rw [e2] at h1
    replace h1 : GO X.K cl W Hs1 H1 σ (if ys.length ≤ sizeLine then .ok ys else .stuck) Q := h1
    split at h1
    · rename_i hsz
      refine ⟨fun i m H2 => ∃ Hs2 acc accP zs, i + m = xs.length ∧ Ext Hs1 H1 Hs2 H2 ∧ Hs2 D = none ∧ H2 D = some (.lst acc) ∧ RpA X.K cl Hs2 acc accP ∧ lcL t c e (wipeE ρ own) (xs.drop i) = .ok zs ∧ accP ++ zs = ys,
        ⟨xs.length, Hs1, [], [], ys, by omega, Ext.newO s1.sub hD, s1.sub.none hD, upd_same, .nil, by simpa using e2, rfl⟩, ?_⟩
      rintro i m H2 ⟨Hs2, acc, accP, zs, em, x2, nD, eD, rA, el, ea⟩
      by_cases hi : i < xs.length
      · refine .inr ⟨Wj.go i H2 Hs2 x2.fs x2.sub hi, fun H3 => ∃ Hs2 acc accP zs, Ext Hs1 H1 Hs2 H3 ∧ Hs2 D = none ∧ H3 D = some (.lst acc) ∧ RpA X.K cl Hs2 acc accP ∧ lcL t c e (wipeE ρ own) (xs.drop (i + 1)) = .ok zs ∧ accP ++ zs = ys,
          fun H3 ⟨Hs3, acc3, accP3, zs3, q⟩ => ⟨m - 1, by omega, Hs3, acc3, accP3, zs3, by omega, q⟩, fun x H3 hy => ?_⟩
        have ev : xs[i]? = some xs[i] := List.getElem?_eq_getElem hi
        obtain ⟨Hs3, x3, rx3⟩ := Wj.yld i x H2 H3 Hs2 xs[i] x2.fs x2.sub ev hy
        rw [List.drop_eq_getElem_cons hi] at el
        unfold lcL at el
        cases et : t xs[i] with
        | none => rw [et] at el; cases el
        | some as =>
          rw [et] at el
          have x13 := x2.trans x3
          refine hG Hs3 H3 (wipe σ own) x xs[i] as _ x3.sub rx3 et fun vs rv => ⟨?_, ?_⟩
          · rw [wipe_setV _ _ _ fun p hp => ?_, wipe_wipe]
            obtain ⟨q, h1, h2⟩ := rv.fst p hp
            rw [← h2]
            exact hI _ _ et q h1
          · have E3 : PEnv X.K cl Hs3 H3 (setV vs (wipe σ own)) (setE as (wipeE ρ own)) := (E1.up x13).sets rv
            refine ⟨Hs3, _, E3, ?_⟩
            have nD3 : Hs3 D = none := x3.nw D (by rw [eD]; simp) nD
            have eD3 : H3 D = some (.lst acc) := x3.same _ _ eD
            cases ec : c (setE as (wipeE ρ own)) with
            | ok b =>
              simp only [ec] at el
              intro b' Hs4 H4 x4 eb
              subst eb
              have nD4 : Hs4 D = none := x4.nw D (by rw [eD3]; simp) nD3
              have eD4 : H4 D = some (.lst acc) := x4.same _ _ eD3
              cases b' with
              | true =>
                simp only at el
                rw [if_pos rfl]
                refine ⟨Hs4, _, E3.up x4, ?_⟩
                cases ee : e (setE as (wipeE ρ own)) with
                | ok y =>
                  simp only [ee] at el
                  intro yv Hs5 H5 x5 ry
                  have nD5 : Hs5 D = none := x5.nw D (by rw [eD4]; simp) nD4
                  have eD5 : H5 D = some (.lst acc) := x5.same _ _ eD4
                  cases er : lcL t c e (wipeE ρ own) (xs.drop (i + 1)) with
                  | ok ws =>
                    simp only [er] at el
                    cases el
                    have up : Sub Hs2 Hs5 := (x3.fs.trans x4.fs).trans x5.fs
                    refine ⟨acc, eD5, ?_, Hs5, acc ++ [yv], accP ++ [y], ws, ?_, nD5, upd_same, (rA.mono up).append (.cons ry .nil), rfl, by rw [← ea]; simp⟩
                    · rw [rA.length]
                      have : ys.length = accP.length + (ws.length + 1) := by rw [← ea]; simp
                      omega
                    · have x15 := ((x13.trans x4).trans x5)
                      exact ⟨x15.fs, x15.sub.upd nD5, x15.same.upd hD, x15.nw⟩
                  | exc c' fs => simp only [er] at el; cases el
                  | stuck => simp only [er] at el; cases el
                | exc c' fs => simp only [ee] at el; cases el
                | stuck => simp only [ee] at el; cases el
              | false =>
                simp only at el
                rw [if_neg Bool.false_ne_true]
                exact ⟨Hs4, acc, accP, zs, x13.trans x4, nD4, eD4, (rA.mono x3.fs).mono x4.fs, el, ea⟩
            | exc c' fs => simp only [ec] at el; cases el
            | stuck => simp only [ec] at el; cases el
      · have hz : xs.drop i = [] := List.drop_of_length_le (by omega)
        rw [hz] at el
        cases el
        rw [List.append_nil] at ea
        subst ea
        exact .inl ⟨Wj.stop i H2 Hs2 x2.fs x2.sub (by omega), h1 D acc Hs2 H2 x2 eD nD hD rA⟩
    · exact h1.elim
end
end VL
namespace VL
open PySem PySem.Spec PyProof.Rows L2
section
variable {X : Cx} {cl : Nat → Addr} {W : WX} {pos : Pos}
theorem vo_lc {rel : Hp → It → List PV → Prop} {elt tg iter : Expr} {ifs : List Expr} {scope : Scope} {own : List (Str × Nat)} {it : Ev → R (List PV)} {g : TG} {t : Tg} {c : Ev → R Bool} {e : Ex} (hc : X.calm = true) (hN : X.N.Nodup) (hi : PI X tg iter (gv X.K cl rel W it)) (hR : ∀ Hs J xs, rel Hs J xs → Wk X.K cl Hs J xs)
    (ok : BlkOk X.N X.env.scope scope own) (hG : TgOk X.K cl g t) (hI : TgIn t (own.map (·.2)))
    (hg : ∀ (s : Shared) (H : Hp) (C : Addr) (cl : List (Str × Addr)) (fp : List Addr), PG (X.blk s H scope (compEnvC scope cl C X.env) fp) tg g) (ht : ∀ (s : Shared) (H : Hp) (C : Addr) (cl' : List (Str × Addr)) (fp : List Addr), PTs (X.blk s H scope (compEnvC scope cl' C X.env) fp) ifs (tt X.K cl W0 c))
    (he : ∀ (s : Shared) (H : Hp) (C : Addr) (cl' : List (Str × Addr)) (fp : List Addr), PE (X.blk s H scope (compEnvC scope cl' C X.env) fp) elt (tv X.K cl W0 e)) (hs : ∀ x, foldedSetIterable iter X.env x = pure x := by intro _; rfl) :
    PE X (.ListComp elt [⟨tg, iter, ifs, 0⟩] scope pos) (to X.K cl W (eLc (own.map (·.2)) t it c e)) :=
  peWeak (pe_lc hc hN hi ok hg ht he hs) fun σ H Q h => lc_use hR hG hI h
end

/-! ### the statements -/
def sPass : Env → Out := fun ρ => .next ρ
def sBreak : Env → Out := fun ρ => .brk ρ
def sCont : Env → Out := fun ρ => .cont ρ
def sRetN : Env → Out := fun _ => .ret .non
def sSeq (s t : Env → Out) : Env → Out := fun ρ => match s ρ with
  | .next ρ' => t ρ'
  | .brk ρ' => .brk ρ' | .cont ρ' => .cont ρ' | .ret v => .ret v | .exc c fs ρ' => .exc c fs ρ' | .stuck => .stuck
def sExpr (bs : List Bool) (f : Ex) : Env → Out := fun ρ => onE PV.nol f bs ρ fun _ ρ' => .next ρ'
def sRet (bs : List Bool) (f : Ex) : Env → Out := fun ρ => onE PV.nol f bs ρ fun v _ => .ret v
def sSet (i : Nat) (bs : List Bool) (f : Ex) : Env → Out := fun ρ => onE PV.nol f bs ρ fun v ρ' => .next (ρ'.set i (.fz v))
def sTg (t : Tg) (bs : List Bool) (f : Ex) : Env → Out := fun ρ => onE PV.nol f bs ρ fun v ρ' => match t v with
  | some as => .next (setS as ρ')
  | none => .stuck
def sPar (is : List Nat) (bs : List Bool) (fs : List Ex) : Env → Out := fun ρ => onE PV.nols (evs fs) bs ρ fun vs ρ' => .next (setS (is.zip vs) ρ')
def onO (f : Ev → R (List PV)) (bs : List Bool) (ρ : Env) (k : List PV → Env → Out) : Out := match f (vw bs ρ) with
  | .ok xs => k xs (settle bs (PV.nols xs) ρ)
  | .exc c fs => .exc c fs (fr bs ρ)
  | .stuck => .stuck
def sOwn (i : Nat) (bs : List Bool) (f : Ev → R (List PV)) : Env → Out := fun ρ => onO f bs ρ fun xs ρ' => .next (ρ'.set i (.own xs))
def getO : Env → Nat → Option (List PV)
  | .own xs :: _, 0 => some xs
  | _ :: r, n + 1 => getO r n
  | _, _ => none
theorem getO_eq : ∀ {ρ : Env} {i : Nat} {xs : List PV}, getO ρ i = some xs → ρ[i]? = some (.own xs)
  | [], i, xs, h => by cases i <;> cases h
  | .own ys :: r, 0, xs, h => by cases h; rfl
  | .no :: r, 0, xs, h => by cases h
  | .fz v :: r, 0, xs, h => by cases h
  | s :: r, n + 1, xs, h => by
    rw [List.getElem?_cons_succ]
    exact getO_eq (by cases s <;> exact h)
/-- a method that changes an own list -/
def sMet (i : Nat) (g : List PV → List PV → Option (List PV)) (bs : List Bool) (fs : List Ex) : Env → Out := fun ρ => match getO ρ i with
  | none => .stuck
  | some _ => onE PV.nols (evs fs) bs ρ fun vs ρ' => match getO ρ' i with
    | none => .stuck
    | some xs => match g xs vs with
      | none => .stuck
      | some ys => .next (ρ'.set i (.own ys))
def mApp (xs vs : List PV) : Option (List PV) := match vs with
  | [v] => if xs.length < sizeLine then some (xs ++ [v]) else none
  | _ => none
def mExt (xs vs : List PV) : Option (List PV) := match vs with
  | [.lst ys] => if xs.length + ys.length ≤ sizeLine then some (xs ++ ys) else none
  | _ => none
def mIns (xs vs : List PV) : Option (List PV) := match vs with
  | [.int i, v] => if xs.length < sizeLine ∧ 0 ≤ i ∧ i < 2 ^ 63 then some (xs.take i.toNat ++ [v] ++ xs.drop i.toNat) else none
  | _ => none
/-- x[i] = e -/
def sPut (i : Nat) (bs : List Bool) (fv fi : Ex) : Env → Out := fun ρ => onE PV.nol fv bs ρ fun v ρ1 => match getO ρ1 i with
  | none => .stuck
  | some _ => onE PV.nol fi bs ρ1 fun k ρ2 => match getO ρ2 i, k with
    | some xs, .int z => match ixN xs.length z with
      | some j => .next (ρ2.set i (.own (xs.set j v)))
      | none => .stuck
    | _, _ => .stuck
/-- y = x.pop() -/
def sPop (i : Nat) (t : Tg) : Env → Out := fun ρ => match getO ρ i with
  | none => .stuck
  | some xs => match xs[xs.length - 1]? with
    | none => .stuck
    | some v => match t v with
      | none => .stuck
      | some as => .next (setS as (ρ.set i (.own xs.dropLast)))
def sAug (i : Nat) (g : PV → PV → Option PV) (bs : List Bool) (f : Ex) : Env → Out := fun ρ => match ρ[i]? with
  | some (.fz x) => onE PV.nol f bs ρ fun y ρ' => match g x y with
    | some z => .next (ρ'.set i (.fz z))
    | none => .stuck
  | _ => .stuck
def sIf (bs : List Bool) (c : Ev → R Bool) (s t : Env → Out) : Env → Out := fun ρ => onE (fun _ => true) c bs ρ fun b ρ' => if b = true then s ρ' else t ρ'
def forL (t : Tg) (s : Env → Out) : List PV → Env → Out
  | [], ρ => .next ρ
  | v :: vs, ρ => match t v with
    | none => .stuck
    | some as => match s (setS as ρ) with
      | .next ρ' => forL t s vs ρ'
      | .cont ρ' => forL t s vs ρ'
      | .brk ρ' => .next ρ'
      | .ret v => .ret v
      | .exc c fs ρ' => .exc c fs ρ'
      | .stuck => .stuck
def sFor (nl : Bool) (t : Tg) (bs : List Bool) (it : Ev → R (List PV)) (s : Env → Out) : Env → Out := fun ρ => onE (fun _ => nl) it bs ρ fun xs ρ' => forL t s xs ρ'
def wN (bs : List Bool) (c : Ev → R Bool) (s : Env → Out) : Nat → Env → Option Out
  | 0, _ => none
  | n + 1, ρ => match c (vw bs ρ) with
    | .ok false => some (.next ρ)
    | .ok true => match s ρ with
      | .next ρ' => wN bs c s n ρ'
      | .cont ρ' => wN bs c s n ρ'
      | .brk ρ' => some (.next ρ')
      | .ret v => some (.ret v)
      | .exc c fs ρ' => some (.exc c fs ρ')
      | .stuck => some .stuck
    | .exc c fs => some (.exc c fs (fr bs ρ))
    | .stuck => some .stuck
open Classical in
noncomputable def sWhile (bs : List Bool) (c : Ev → R Bool) (s : Env → Out) : Env → Out := fun ρ =>
  if h : ∃ o n, wN bs c s n ρ = some o then h.choose else .stuck
theorem wN_mono {bs : List Bool} {c : Ev → R Bool} {s : Env → Out} : ∀ {n : Nat} {ρ : Env} {o : Out} (k : Nat), wN bs c s n ρ = some o → wN bs c s (n + k) ρ = some o
  | 0, _, _, _, h => by cases h
  | n + 1, ρ, o, k, h => by
    rw [show n + 1 + k = (n + k) + 1 by omega]
    unfold wN at h ⊢
    cases e : c (vw bs ρ) with
    | ok b =>
      rw [e] at h
      cases b with
      | false => exact h
      | true =>
        cases e2 : s ρ with
        | next ρ' => simp only [e2] at h ⊢; exact wN_mono k h
        | cont ρ' => simp only [e2] at h ⊢; exact wN_mono k h
        | brk ρ' => simp only [e2] at h ⊢; exact h
        | ret v => simp only [e2] at h ⊢; exact h
        | exc c' fs ρ' => simp only [e2] at h ⊢; exact h
        | stuck => simp only [e2] at h ⊢; exact h
    | exc c' fs => rw [e] at h; exact h
    | stuck => rw [e] at h; exact h
theorem sWhile_of {bs : List Bool} {c : Ev → R Bool} {s : Env → Out} {ρ : Env} {n : Nat} {o : Out} (h : wN bs c s n ρ = some o) : sWhile bs c s ρ = o := by
  have hx : ∃ o n, wN bs c s n ρ = some o := ⟨o, n, h⟩
  unfold sWhile
  rw [dif_pos hx]
  obtain ⟨m, hm⟩ := hx.choose_spec
  have h1 := wN_mono m h
  have h2 := wN_mono n hm
  rw [Nat.add_comm] at h2
  rw [h1] at h2
  exact (Option.some.inj h2).symm
/-- a while by a measure: what one turn does -/
theorem sWhile_by {bs : List Bool} {c : Ev → R Bool} {s : Env → Out} {Q : Out → Prop} (I : Nat → Env → Prop)
    (turn : ∀ m ρ, I m ρ → (c (vw bs ρ) = .ok false ∧ Q (.next ρ)) ∨ (c (vw bs ρ) = .ok true ∧ ((∃ m' ρ', m' < m ∧ (s ρ = .next ρ' ∨ s ρ = .cont ρ') ∧ I m' ρ') ∨ (∃ ρ', s ρ = .brk ρ' ∧ Q (.next ρ')) ∨ (∃ v, s ρ = .ret v ∧ Q (.ret v)) ∨ ∃ c fs ρ', s ρ = .exc c fs ρ' ∧ Q (.exc c fs ρ'))))
    {m : Nat} {ρ : Env} (h : I m ρ) : Q (sWhile bs c s ρ) := by
  have go : ∀ m ρ, I m ρ → ∃ n o, wN bs c s n ρ = some o ∧ Q o := by
    intro m
    induction m using Nat.strongRecOn with
    | ind m ih =>
      intro ρ h
      rcases turn m ρ h with ⟨e, q⟩ | ⟨e, ⟨m', ρ', hm, es, h'⟩ | ⟨ρ', es, q⟩ | ⟨v, es, q⟩ | ⟨c, fs, ρ', es, q⟩⟩
      · exact ⟨1, _, by unfold wN; rw [e], q⟩
      · obtain ⟨n, o, h1, h2⟩ := ih m' hm ρ' h'
        refine ⟨n + 1, o, ?_, h2⟩
        unfold wN
        rw [e]
        rcases es with es | es <;> (simp only [es]; exact h1)
      · exact ⟨1, _, by unfold wN; simp only [e, es], q⟩
      · exact ⟨1, _, by unfold wN; simp only [e, es], q⟩
      · exact ⟨1, _, by unfold wN; simp only [e, es], q⟩
  obtain ⟨n, o, h1, h2⟩ := go m ρ h
  rw [sWhile_of h1]
  exact h2

section
variable {X : Cx} {cl : Nat → Addr} {W : WX} {He H0 : Hp} {pos : Pos}
abbrev PV1 (X : Cx) (cl : Nat → Addr) (W : WX) (He H0 : Hp) (st : Stmt) (s : Env → Out) : Prop := PS X st (ts X.K cl He H0 W s)
abbrev PVs (X : Cx) (cl : Nat → Addr) (W : WX) (He H0 : Hp) (st : List Stmt) (s : Env → Out) : Prop := PSs X st (ts X.K cl He H0 W s)
variable {st : Stmt} {rest : List Stmt} {s t : Env → Out} {e : Expr} {f : Ex} {bs : List Bool}
theorem vs_nil : PVs X cl W He H0 [] sPass := pssWeak pss_nil fun D σ H ⟨Hs, ρ, S, h⟩ => h σ Hs H (Sub.refl _) S
theorem vs_one (h : PV1 X cl W He H0 st s) : PVs X cl W He H0 [st] s := pss_one h
theorem vs_cons (h : PV1 X cl W He H0 st s) (h' : PVs X cl W He H0 rest t) : PVs X cl W He H0 (st :: rest) (sSeq s t) :=
  pssWeak (pss_cons h h') fun D σ H ⟨Hs, ρ, S, h⟩ => by
    refine ⟨Hs, ρ, S, ?_⟩
    unfold sSeq at h
    cases e : s ρ with
    | next ρ' => rw [e] at h; exact fun σ' Hs' H' up S' => ⟨Hs', ρ', S', Post.up h up⟩
    | brk ρ' => rw [e] at h; exact h
    | cont ρ' => rw [e] at h; exact h
    | ret v => rw [e] at h; exact h
    | exc c fs ρ' => rw [e] at h; exact h
    | stuck => rw [e] at h; exact h
theorem vs_pass : PV1 X cl W He H0 (.Pass pos) sPass := psWeak ps_pass fun D σ H ⟨Hs, ρ, S, h⟩ => h σ Hs H (Sub.refl _) S
theorem vs_doc {x j pos'} : PV1 X cl W He H0 (.Expr (.Constant (.str x) j pos) pos') sPass := psWeak ps_doc fun D σ H ⟨Hs, ρ, S, h⟩ => h σ Hs H (Sub.refl _) S
theorem vs_break : PV1 X cl W He H0 (.Break pos) sBreak := psWeak ps_break fun D σ H ⟨Hs, ρ, S, h⟩ => h σ Hs H (Sub.refl _) S
theorem vs_cont : PV1 X cl W He H0 (.Continue pos) sCont := psWeak ps_continue fun D σ H ⟨Hs, ρ, S, h⟩ => h σ Hs H (Sub.refl _) S
theorem vs_retN : PV1 X cl W He H0 (.Return none pos) sRetN := psWeak ps_retN fun D σ H ⟨Hs, ρ, S, h⟩ => h .non Hs H S.ext .non
theorem vs_expr (he : PE X e (tv X.K cl W f)) (hs : swapsWith e none pos.line X.env = pure false := by rfl) : PV1 X cl W He H0 (.Expr e pos) (sExpr bs f) :=
  psWeak (ps_expr he hs) fun D σ H ⟨Hs, ρ, S, h⟩ => onE_use bears_v S h fun v x Hs1 H1 ρ1 up S1 r _ _ _ hp => hp _ _ _ (Sub.refl _) S1
theorem vs_ret (he : PE X e (tv X.K cl W f)) : PV1 X cl W He H0 (.Return (some e) pos) (sRet bs f) :=
  psWeak (ps_ret he) fun D σ H ⟨Hs, ρ, S, h⟩ => onE_use bears_v S h fun v x Hs1 H1 ρ1 up S1 r _ _ _ hp => hp _ _ _ S1.ext r
theorem vs_set {i : Nat} {x : Str} {p' : Pos} (hN : X.N.Nodup) (he : PE X e (tv X.K cl W f)) (hi : X.N[i]? = some x := by rfl) (hx : Loc X.env.scope x := by first | exact Or.inl rfl | exact Or.inr rfl) (hs : swapsWith e (some (.Name x p')) pos.line X.env = pure false := by rfl) (hf : X.fn x = true ∨ X.env.scope.names.lookup x = some .local := by first | exact .inl rfl | exact .inr rfl | assumption) :
    PV1 X cl W He H0 (.Assign [.Name x p'] e pos) (sSet i bs f) :=
  psWeak (ps_set hN hi hx he hs hf) fun D σ H ⟨Hs, ρ, S, h⟩ => onE_use bears_v S h fun v x Hs1 H1 ρ1 up S1 r _ _ _ hp => hp _ _ _ (Sub.refl _) (S1.set r i)
theorem vs_tg {tg : Expr} {g : TG} {t : Tg} (he : PE X e (tv X.K cl W f)) (hg : PG X tg g) (hG : TgOk X.K cl g t) (hs : swapsWithSole [tg] e pos.line X.env = pure false := by rfl) (hw : swappedStores [tg] e X.env = pure none := by rfl) (h1 : (assignEach [tg] X.env).map (·.2) = [assign tg X.env] := by rfl) :
    PV1 X cl W He H0 (.Assign [tg] e pos) (sTg t bs f) :=
  psWeak (ps_asg he hg hs hw h1) fun D σ H ⟨Hs, ρ, S, h⟩ => onE_use bears_v S h fun v x Hs1 H1 ρ1 up S1 r _ _ _ hp => by
    cases e : t v with
    | none => rw [e] at hp; exact hp.elim
    | some as => rw [e] at hp; exact hG Hs1 H1 σ x v as _ S1.sub r e fun xs rx => hp _ _ _ (Sub.refl _) (S1.sets rx)
theorem vs_par {i j : Nat} {x y : Str} {a b : Expr} {fs : List Ex} {px py pt : Pos} {kt k2 pt2} (hc : X.calm = true) (hN : X.N.Nodup) (ha : PA X [a, b] (ta X.K cl W (evs fs))) (hi : X.N[i]? = some x := by rfl) (hj : X.N[j]? = some y := by rfl) (hij : i ≠ j := by decide)
    (hx : X.env.scope.names.lookup x = some .local := by rfl) (hy : X.env.scope.names.lookup y = some .local := by rfl)
    (hw : swappedStores [.Tuple [.Name x px, .Name y py] kt pt] (.Tuple [a, b] k2 pt2) X.env = pure (some [x, y]) := by rfl)
    (hs : swapsWithSole [.Tuple [.Name x px, .Name y py] kt pt] (.Tuple [a, b] k2 pt2) pos.line X.env = pure false := by rfl) (hl : fs.length = 2 := by rfl) :
    PV1 X cl W He H0 (.Assign [.Tuple [.Name x px, .Name y py] kt pt] (.Tuple [a, b] k2 pt2) pos) (sPar [i, j] bs fs) :=
  psWeak (ps_par hc hN hi hj hij hx hy ha hw hs) fun D σ H ⟨Hs, ρ, S, h⟩ => onE_use bears_a S h fun v xs Hs1 H1 ρ1 up S1 r ev _ _ hp => by
    have l2 : v.length = 2 := by
      have gen : ∀ (gs : List Ex) (ρ : Ev) (vs : List PV), evs gs ρ = .ok vs → vs.length = gs.length := by
        intro gs
        induction gs with
        | nil => intro ρ vs e; cases e; rfl
        | cons g gs ih =>
          intro ρ vs e
          unfold evs at e
          cases e1 : g ρ with
          | ok x =>
            rw [e1] at e
            replace e : (evs gs ρ).bind (fun xs => R.ok (x :: xs)) = .ok vs := e
            cases e2 : evs gs ρ with
            | ok xs => rw [e2] at e; cases e; simp [ih ρ xs e2]
            | exc c f => rw [e2] at e; cases e
            | stuck => rw [e2] at e; cases e
          | exc c f => rw [e1] at e; cases e
          | stuck => rw [e1] at e; cases e
      rw [gen _ _ _ ev, hl]
    match v, l2, r with
    | [v1, v2], _, .cons (v := x1) r1 (.cons (v := x2) r2 .nil) =>
      exact ⟨x1, x2, rfl, hp _ _ _ (Sub.refl _) ((S1.set r1 i).set r2 j)⟩
/-- a made list becomes the def's own -/
theorem onO_use {g : Ev → R (List PV)} {k : List PV → Env → Out} {D : Ends} {Q : VK} {σ : St} {Hs H : Hp} {ρ : Env} {K : PySem.W.Frag} (S : SEnv K cl He H0 Hs H σ ρ) (h : Post K cl He H0 W Hs D (onO g bs ρ k))
    (hk : ∀ xs a vs Hs1 H1 ρ1, Sub Hs Hs1 → SEnv K cl He H0 Hs1 H1 σ ρ1 → H1 a = some (.lst vs) → RpA K cl Hs1 vs xs → Hs1 a = none → H0 a = none → (∀ (j : Nat) (ys : List PV), ρ1[j]? = some (Sl.own ys) → σ[j]? ≠ some (some (V.ref a))) → Post K cl He H0 W Hs1 D (k xs ρ1) → Q (.ref a) H1) : to K cl W g σ H Q := by
  refine ⟨_, _, S.pe bs, ?_⟩
  unfold onO at h
  have s1 := (S.plusExt bs).1
  have hH0 : ∀ {a : Addr}, H a = none → H0 a = none := fun {a} n => by
    cases q : H0 a with
    | none => rfl
    | some o => rw [S.ext.same a o q] at n; cases n
  have hnew : ∀ {a : Addr}, H a = none → ∀ (j : Nat) (ys : List PV), ρ[j]? = some (Sl.own ys) → σ[j]? ≠ some (some (V.ref a)) := fun {a} n j ys e z => by
    obtain ⟨b, vs, e1, e2, _⟩ := S.own j ys e
    rw [z] at e1
    cases e1
    rw [n] at e2; cases e2
  cases e : g (vw bs ρ) with
  | ok xs =>
    rw [e] at h
    replace h : Post K cl He H0 W Hs D (k xs (settle bs (PV.nols xs) ρ)) := h
    intro a vs Hs1 H1 X e1 n1 n2 r
    cases en : PV.nols xs with
    | false =>
      have es : settle bs (PV.nols xs) ρ = fr bs ρ := by unfold settle; rw [en]; rfl
      have up := s1.trans X.fs
      rw [es] at h
      exact hk xs a vs Hs1 H1 _ up (S.froze X) e1 r n1 (hH0 n2) (fun j ys e => hnew n2 j ys (fr_own e).1) (Post.up h up)
    | true =>
      have es : settle bs (PV.nols xs) ρ = ρ := by unfold settle; rw [en]; rfl
      obtain ⟨S1, up⟩ := S.back X
      rw [es] at h
      have nP : ¬ isOwn bs ρ σ a := fun p => by
        obtain ⟨vs, q⟩ := (S.ownAt p).1
        rw [n2] at q; cases q
      refine hk xs a vs _ H1 _ up S1 e1 (r.nolist ⟨fun b p => ?_⟩ en) (by rw [cut_no nP]; exact n1) (hH0 n2) (hnew n2) (Post.up h up)
      obtain ⟨us, e2⟩ := (S.ownAt p).1
      exact ⟨us, X.fs _ _ (by rw [plus_yes p]; exact e2)⟩
  | exc c fs =>
    rw [e] at h
    intro d fvs Hs1 H1 X e1 r
    exact h σ Hs1 H1 d fvs (s1.trans X.fs) (S.froze X) e1 r
  | stuck => rw [e] at h; exact h
theorem vs_own {i : Nat} {x : Str} {p' : Pos} {g : Ev → R (List PV)} (hN : X.N.Nodup) (he : PE X e (to X.K cl W g)) (hi : X.N[i]? = some x := by rfl) (hx : Loc X.env.scope x := by first | exact Or.inl rfl | exact Or.inr rfl) (hs : swapsWith e (some (.Name x p')) pos.line X.env = pure false := by rfl) (hf : X.fn x = true ∨ X.env.scope.names.lookup x = some .local := by first | exact .inl rfl | exact .inr rfl | assumption) :
    PV1 X cl W He H0 (.Assign [.Name x p'] e pos) (sOwn i bs g) :=
  psWeak (ps_set hN hi hx he hs hf) fun D σ H ⟨Hs, ρ, S, h⟩ => onO_use S h fun xs a vs Hs1 H1 ρ1 up S1 e1 r n1 n0 new hp => hp _ _ _ (Sub.refl _) (S1.setOwn e1 r n1 n0 new i)
/-! a comprehension given to a name -/
section
variable {rel : Hp → It → List PV → Prop} {elt tg iter : Expr} {ifs : List Expr} {scope : Scope} {own : List (Str × Nat)} {it : Ev → R (List PV)} {g : TG} {t : Tg} {c : Ev → R Bool} {e : Ex} {i : Nat} {y : Str} {py p2 : Pos}
theorem vs_ownLc (hc : X.calm = true) (hN : X.N.Nodup) (hi : PI X tg iter (gv X.K cl rel W it)) (hR : ∀ Hs J xs, rel Hs J xs → Wk X.K cl Hs J xs)
    (ok : BlkOk X.N X.env.scope scope own) (hG : TgOk X.K cl g t) (hI : TgIn t (own.map (·.2)))
    (hg : ∀ (s : Shared) (H : Hp) (C : Addr) (cl : List (Str × Addr)) (fp : List Addr), PG (X.blk s H scope (compEnvC scope cl C X.env) fp) tg g) (ht : ∀ (s : Shared) (H : Hp) (C : Addr) (cl' : List (Str × Addr)) (fp : List Addr), PTs (X.blk s H scope (compEnvC scope cl' C X.env) fp) ifs (tt X.K cl W0 c))
    (he : ∀ (s : Shared) (H : Hp) (C : Addr) (cl' : List (Str × Addr)) (fp : List Addr), PE (X.blk s H scope (compEnvC scope cl' C X.env) fp) elt (tv X.K cl W0 e)) (hs : ∀ x, foldedSetIterable iter X.env x = pure x := by intro _; rfl)
    (hy : X.N[i]? = some y := by rfl) (hyl : X.env.scope.names.lookup y = some .local := by rfl) (hsw : swapsWith (.ListComp elt [⟨tg, iter, ifs, 0⟩] scope p2) (some (.Name y py)) pos.line X.env = pure true := by rfl) :
    PV1 X cl W He H0 (.Assign [.Name y py] (.ListComp elt [⟨tg, iter, ifs, 0⟩] scope p2) pos) (sOwn i bs (eLc (own.map (·.2)) t it c e)) :=
  psWeak (ps_setLc hc hN hy hyl hsw hi ok hg ht he hs) fun D σ H ⟨Hs, ρ, S, h⟩ => lc_use hR hG hI (onO_use S h fun xs a vs Hs1 H1 ρ1 up S1 e1 r n1 n0 new hp => hp _ _ _ (Sub.refl _) (S1.setOwn e1 r n1 n0 new i))
theorem onO_asLst {g : Ev → R (List PV)} {k : PV → Env → Out} {ρ : Env} {D : Ends} {Hs : Hp} {K : PySem.W.Frag} {σ : St} {H : Hp} {Q : VK} (S : SEnv K cl He H0 Hs H σ ρ) (h : Post K cl He H0 W Hs D (onE PV.nol (asLst g) bs ρ k))
    (hk : ∀ v x Hs1 H1 ρ1, Sub Hs Hs1 → SEnv K cl He H0 Hs1 H1 σ ρ1 → Rp K cl Hs1 x v → Post K cl He H0 W Hs1 D (k v ρ1) → Q x H1) : to K cl W g σ H Q := by
  refine ⟨_, _, S.pe bs, ?_⟩
  unfold onE asLst at h
  have s1 := (S.plusExt bs).1
  cases e : g (vw bs ρ) with
  | ok xs =>
    rw [e] at h
    replace h : Post K cl He H0 W Hs D (k (.lst xs) (fr bs ρ)) := h
    intro a vs Hs1 H1 X e1 n1 n2 r
    have X2 : Ext (plus (isOwn bs ρ σ) Hs H) H (upd Hs1 a (.lst vs)) H1 := ⟨X.fs.trans (Sub.new n1), fun b o q => by
      by_cases hb : b = a
      · subst hb; rw [upd_same] at q; rw [e1]; exact q
      · rw [upd_ne hb] at q; exact X.sub b o q, X.same, fun b hb n => by
      rw [upd_ne (fun z => hb (by rw [z]; exact n2))]
      exact X.nw b hb n⟩
    have up := s1.trans X2.fs
    exact hk _ (.ref a) _ H1 _ up (S.froze X2) (.lst upd_same (r.mono (Sub.new n1))) (Post.up h up)
  | exc c fs =>
    rw [e] at h
    intro d fvs Hs1 H1 X e1 r
    exact h σ Hs1 H1 d fvs (s1.trans X.fs) (S.froze X) e1 r
  | stuck => rw [e] at h; exact h
theorem vs_setLc (hc : X.calm = true) (hN : X.N.Nodup) (hi : PI X tg iter (gv X.K cl rel W it)) (hR : ∀ Hs J xs, rel Hs J xs → Wk X.K cl Hs J xs)
    (ok : BlkOk X.N X.env.scope scope own) (hG : TgOk X.K cl g t) (hI : TgIn t (own.map (·.2)))
    (hg : ∀ (s : Shared) (H : Hp) (C : Addr) (cl : List (Str × Addr)) (fp : List Addr), PG (X.blk s H scope (compEnvC scope cl C X.env) fp) tg g) (ht : ∀ (s : Shared) (H : Hp) (C : Addr) (cl' : List (Str × Addr)) (fp : List Addr), PTs (X.blk s H scope (compEnvC scope cl' C X.env) fp) ifs (tt X.K cl W0 c))
    (he : ∀ (s : Shared) (H : Hp) (C : Addr) (cl' : List (Str × Addr)) (fp : List Addr), PE (X.blk s H scope (compEnvC scope cl' C X.env) fp) elt (tv X.K cl W0 e)) (hs : ∀ x, foldedSetIterable iter X.env x = pure x := by intro _; rfl)
    (hy : X.N[i]? = some y := by rfl) (hyl : X.env.scope.names.lookup y = some .local := by rfl) (hsw : swapsWith (.ListComp elt [⟨tg, iter, ifs, 0⟩] scope p2) (some (.Name y py)) pos.line X.env = pure true := by rfl) :
    PV1 X cl W He H0 (.Assign [.Name y py] (.ListComp elt [⟨tg, iter, ifs, 0⟩] scope p2) pos) (sSet i bs (asLst (eLc (own.map (·.2)) t it c e))) :=
  psWeak (ps_setLc hc hN hy hyl hsw hi ok hg ht he hs) fun D σ H ⟨Hs, ρ, S, h⟩ => lc_use hR hG hI (onO_asLst S h fun v x Hs1 H1 ρ1 up S1 r hp => hp _ _ _ (Sub.refl _) (S1.set r i))
end

/-! changing an own list -/
theorem getO_set {ρ : Env} {i : Nat} {xs : List PV} (h : getO ρ i = some xs) : ρ[i]? = some (.own xs) := getO_eq h
/-- the method's rule, by its reading -/
def MetOk (K : PySem.W.Frag) (cl : Nat → Addr) (r : V → List V → Hp → VK → Prop) (g : List PV → List PV → Option (List PV)) : Prop :=
  ∀ (Hs H : Hp) (a : Addr) (vs us : List V) (xs ws ys : List PV) (Q : VK), Sub Hs H → H a = some (.lst vs) → Hs a = none → RpA K cl Hs vs xs → RpA K cl Hs us ws → g xs ws = some ys → (∀ zs, RpA K cl Hs zs ys → Q .non (upd H a (.lst zs))) → r (.ref a) us H Q
theorem met_app {K : PySem.W.Frag} : MetOk K cl rAppend mApp := fun Hs H a vs us xs ws ys Q s e n r ru h q => by
  cases ru with
  | nil => cases h
  | cons r1 t =>
    cases t with
    | cons _ _ => cases h
    | nil =>
      replace h : (if xs.length < sizeLine then some (xs ++ [_]) else none) = some ys := h
      split at h
      · cases h; exact ⟨a, vs, _, rfl, rfl, e, by rw [r.length]; assumption, q _ (r.append (.cons r1 .nil))⟩
      · cases h
theorem met_ext {K : PySem.W.Frag} : MetOk K cl rExtend mExt := fun Hs H a vs us xs ws ys Q s e n r ru h q => by
  cases ru with
  | nil => cases h
  | cons r1 t =>
    cases t with
    | cons _ _ => cases r1 <;> cases h
    | nil =>
      cases r1 with
      | @lst b zs ys' hb rb =>
        replace h : (if xs.length + ys'.length ≤ sizeLine then some (xs ++ ys') else none) = some ys := h
        split at h
        · cases h; exact ⟨a, b, vs, zs, rfl, rfl, e, s _ _ hb, by rw [r.length, rb.length]; assumption, q _ (r.append rb)⟩
        · cases h
      | _ => cases h
def rInsert : V → List V → Hp → VK → Prop := fun x vs H Q => ∃ (l : Addr) (xs : List V) (i : Int) (y : V), x = .ref l ∧ vs = [.int i, y] ∧ H l = some (.lst xs) ∧ xs.length < sizeLine ∧ 0 ≤ i ∧ i < 2 ^ 63 ∧ Q .non (upd H l (.lst (xs.take i.toNat ++ [y] ++ xs.drop i.toNat)))
theorem met_ins {K : PySem.W.Frag} : MetOk K cl rInsert mIns := fun Hs H a vs us xs ws ys Q s e n r ru h q => by
  cases ru with
  | nil => cases h
  | cons r1 t =>
    cases t with
    | nil => cases r1 <;> cases h
    | cons r2 t =>
      cases t with
      | cons _ _ => cases r1 <;> cases h
      | nil =>
        cases r1 with
        | int i =>
          replace h : (if xs.length < sizeLine ∧ 0 ≤ i ∧ i < 2 ^ 63 then some (xs.take i.toNat ++ [_] ++ xs.drop i.toNat) else none) = some ys := h
          split at h
          · rename_i hk
            cases h
            exact ⟨a, vs, i, _, rfl, rfl, e, by rw [r.length]; exact hk.1, hk.2.1, hk.2.2, q _ (((r.take _).append (.cons r2 .nil)).append (r.drop _))⟩
          · cases h
        | _ => cases h
theorem vs_met {i : Nat} {x : Str} {px apos cpos : Pos} {name : Str} {id : String} {r : V → List V → Hp → VK → Prop} {g : List PV → List PV → Option (List PV)} {es : List Expr} {fs : List Ex} (slot : Slot "list" name id) (hty : typeOf (.builtin id) = pure (.type "method_descriptor")) (hm : MtR X id r) (hg : MetOk X.K cl r g)
    (ha : PA X (e :: es) (ta X.K cl W (evs fs))) (hi : X.N[i]? = some x := by rfl) (hv : Vis X.env.scope x := by first | exact Or.inl rfl | exact Or.inr (Or.inl rfl) | exact Or.inr (Or.inr rfl)) (hd : (x == ("__debug__" : Str)) = false := by decide) (hcd : (x == ("__classdict__" : Str)) = false := by decide)
    (hbase : attributeBase (.Name x px) name X.env (eval (.Name x px) X.env) = eval (.Name x px) X.env := by rfl)
    (hfew : ((backTo cpos (starEach (e :: es) X.env)).all (fun x => !x.1) && (backToKw cpos (keywordEach [] X.env)).all (fun x => x.1.isSome)
      && decide ((e :: es).length + ([] : List Keyword).length + (if ([] : List Keyword).isEmpty then 0 else 1) < 30)) = true := by rfl)
    (hline : (apos.endLine == cpos.line) = true := by rfl) (hs : starEach (e :: es) X.env = (false, eval e X.env) :: starEach es X.env := by rfl) (hplain : (backTo cpos (starEach es X.env)).any (·.1) = false := by rfl)
    (hsw : swapsWith (.Call (.Attribute (.Name x px) name apos) (e :: es) [] cpos) none pos.line X.env = pure false := by rfl) :
    PV1 X cl W He H0 (.Expr (.Call (.Attribute (.Name x px) name apos) (e :: es) [] cpos) pos) (sMet i g bs fs) :=
  psWeak (ps_expr (pe_bm PySem.F.plainAttrs_list slot hty hm (pe_var hi hv hd hcd) ha hbase hfew hline hs hplain) hsw) fun D σ H ⟨Hs, ρ, S, h⟩ => by
    unfold sMet at h
    cases e0 : getO ρ i with
    | none => rw [e0] at h; exact h.elim
    | some xs0 =>
      rw [e0] at h
      obtain ⟨a, vs, h1, h2, _⟩ := S.own i xs0 (getO_eq e0)
      refine ⟨_, h1, .inl ⟨rfl, vs, .of h2⟩, ?_⟩
      refine onE_use bears_a S h fun ws us Hs1 H1 ρ1 up S1 ru ev e1 sm hp => ?_
      cases e2 : getO ρ1 i with
      | none => rw [e2] at hp; exact hp.elim
      | some xs =>
        rw [e2] at hp
        cases e3 : g xs ws with
        | none => simp only [e3] at hp; exact hp.elim
        | some ys =>
          simp only [e3] at hp
          obtain ⟨b, vs2, g1, g2, g3, g4, g5⟩ := S1.own i xs (getO_eq e2)
          rw [h1] at g1
          cases g1
          exact hg Hs1 H1 a vs2 us xs ws ys _ S1.sub g2 g4 g3 ru e3 fun zs rz => hp _ _ _ (Sub.refl _) (S1.put (getO_eq e2) h1 rz)
/-- x[i] = e -/
theorem vs_put {i : Nat} {x : Str} {px p2 : Pos} {ie : Expr} {fi : Ex} (he : PE X e (tv X.K cl W f)) (hie : PE X ie (tv X.K cl W fi)) (hi : X.N[i]? = some x := by rfl) (hv : Vis X.env.scope x := by first | exact Or.inl rfl | exact Or.inr (Or.inl rfl) | exact Or.inr (Or.inr rfl)) (hd : (x == ("__debug__" : Str)) = false := by decide) (hcd : (x == ("__classdict__" : Str)) = false := by decide)
    (ha : ∀ v, assign (.Subscript (.Name x px) ie p2) X.env v = (do
      let ov ← holding [v] (eval (.Name x px) X.env)
      let iv ← holding [v, ov] (eval ie X.env)
      standAt p2
      holding [v, ov, iv] (setItem ov iv v)
      release [v, ov, iv] []) := by intro _; rfl) (hs : swapsWithSole [.Subscript (.Name x px) ie p2] e pos.line X.env = pure false := by rfl) (hw : swappedStores [.Subscript (.Name x px) ie p2] e X.env = pure none := by rfl) (h1 : (assignEach [.Subscript (.Name x px) ie p2] X.env).map (·.2) = [assign (.Subscript (.Name x px) ie p2) X.env] := by rfl) :
    PV1 X cl W He H0 (.Assign [.Subscript (.Name x px) ie p2] e pos) (sPut i bs f fi) :=
  psWeak (ps_asg he (pg_sub (pe_var hi hv hd hcd) hie set_list ha) hs hw h1) fun D σ H ⟨Hs, ρ, S, h⟩ => by
    refine onE_use bears_v S h fun v xv Hs1 H1 ρ1 up S1 r _ _ _ hp => ?_
    cases e0 : getO ρ1 i with
    | none => rw [e0] at hp; exact hp.elim
    | some xs0 =>
      rw [e0] at hp
      obtain ⟨a, vs, h1, h2, _⟩ := S1.own i xs0 (getO_eq e0)
      refine ⟨_, h1, ?_⟩
      refine onE_use bears_v S1 hp fun k kv Hs2 H2 ρ2 up2 S2 rk _ _ _ hp2 => ?_
      cases e2 : getO ρ2 i with
      | none => rw [e2] at hp2; exact hp2.elim
      | some xs =>
        rw [e2] at hp2
        cases rk with
        | int z =>
          cases e3 : ixN xs.length z with
          | none => simp only [e3] at hp2; exact hp2.elim
          | some j =>
            simp only [e3] at hp2
            obtain ⟨b, vs2, g1, g2, g3, g4, g5⟩ := S2.own i xs (getO_eq e2)
            rw [h1] at g1
            cases g1
            exact ⟨a, vs2, z, j, rfl, rfl, g2, by rw [g3.length]; exact e3, hp2 _ _ _ (Sub.refl _) (S2.put (getO_eq e2) h1 (RpA.set (r.mono up2) j g3))⟩
        | _ => exact hp2.elim
theorem vs_pop {i : Nat} {x : Str} {px apos cpos : Pos} {tg : Expr} {g : TG} {t : Tg} (hg : PG X tg g) (hG : TgOk X.K cl g t) (hi : X.N[i]? = some x := by rfl) (hv : Vis X.env.scope x := by first | exact Or.inl rfl | exact Or.inr (Or.inl rfl) | exact Or.inr (Or.inr rfl)) (hd : (x == ("__debug__" : Str)) = false := by decide) (hcd : (x == ("__classdict__" : Str)) = false := by decide)
    (hbase : attributeBase (.Name x px) "pop" X.env (eval (.Name x px) X.env) = eval (.Name x px) X.env := by rfl) (hline : (apos.endLine == cpos.line) = true := by rfl)
    (hs : swapsWithSole [tg] (.Call (.Attribute (.Name x px) "pop" apos) [] [] cpos) pos.line X.env = pure false := by rfl) (hw : swappedStores [tg] (.Call (.Attribute (.Name x px) "pop" apos) [] [] cpos) X.env = pure none := by rfl) (h1 : (assignEach [tg] X.env).map (·.2) = [assign tg X.env] := by rfl) :
    PV1 X cl W He H0 (.Assign [tg] (.Call (.Attribute (.Name x px) "pop" apos) [] [] cpos) pos) (sPop i t) :=
  psWeak (ps_asg (pe_bm0 PySem.F.plainAttrs_list PySem.F.slot_list_pop PySem.F.type_list_pop mt_pop (pe_var hi hv hd hcd) hbase hline) hg hs hw h1) fun D σ H ⟨Hs, ρ, S, h⟩ => by
    unfold sPop at h
    cases e0 : getO ρ i with
    | none => rw [e0] at h; exact h.elim
    | some xs =>
      rw [e0] at h
      obtain ⟨a, vs, h1, h2, h3, h4, h5⟩ := S.own i xs (getO_eq e0)
      refine ⟨_, h1, .inl ⟨rfl, vs, .of h2⟩, ?_⟩
      cases e1 : xs[xs.length - 1]? with
      | none => simp only [e1] at h; exact h.elim
      | some v =>
        simp only [e1] at h
        cases e2 : t v with
        | none => simp only [e2] at h; exact h.elim
        | some as =>
          simp only [e2] at h
          obtain ⟨y, g1, g2⟩ := h3.get e1
          have dl : RpA X.K cl Hs vs.dropLast xs.dropLast := by
            rw [List.dropLast_eq_take, List.dropLast_eq_take, h3.length]
            exact h3.take _
          have S2 := S.put (getO_eq e0) h1 dl
          exact ⟨a, vs, y, rfl, rfl, h2, by rw [h3.length]; exact g1, hG Hs _ σ y v as _ S2.sub g2 e2 fun us ru => h _ _ _ (Sub.refl _) (S2.sets ru)⟩
/-- name op= e -/
theorem vs_aug {i : Nat} {x : Str} {op : Operator} {r : R2} {g : PV → PV → Option PV} {p' : Pos} (ho : OpR X (inplaceOp op) r) (hg : OpV X.K cl r g) (hN : X.N.Nodup) (he : PE X e (tv X.K cl W f)) (hi : X.N[i]? = some x := by rfl) (hx : Loc X.env.scope x := by first | exact Or.inl rfl | exact Or.inr rfl) (hf : X.fn x = true ∨ X.env.scope.names.lookup x = some .local := by first | exact .inl rfl | exact .inr rfl | assumption) :
    PV1 X cl W He H0 (.AugAssign (.Name x p') op e pos) (sAug i g bs f) :=
  psWeak (ps_aug hN hi hx he ho hf) fun D σ H ⟨Hs, ρ, S, h⟩ => by
    unfold sAug at h
    split at h
    · rename_i v e0
      obtain ⟨y, h1, h2⟩ := S.fz i v e0
      refine ⟨y, h1, onE_use bears_v S h fun u w Hs1 H1 ρ1 up S1 ru _ _ _ hp => ?_⟩
      cases e1 : g v u with
      | none => simp only [e1] at hp; exact hp.elim
      | some z =>
        simp only [e1] at hp
        exact hg W σ Hs1 H1 y w v u z _ S1.sub (h2.mono up) ru e1 fun zz Hs2 H2 x2 rz => hp _ _ _ x2.fs (SEnv.set ⟨S1.ext.trans x2, S1.len, fun j v' e => let ⟨q, a1, a2⟩ := S1.fz j v' e; ⟨q, a1, a2.mono x2.fs⟩, fun j ys e => let ⟨q, a0, a1, a2, a3, a4, a5⟩ := S1.own j ys e; ⟨q, a0, a1, x2.same _ _ a2, a3.mono x2.fs, x2.nw q (by rw [a2]; simp) a4, a5⟩, S1.inj⟩ rz i)
    · exact h.elim
theorem vs_if {c : Expr} {a b : List Stmt} {cc : Ev → R Bool} (hc : PT X c (tt X.K cl W cc)) (ha : PVs X cl W He H0 a s) (hb : PVs X cl W He H0 b t) : PV1 X cl W He H0 (.If c a b pos) (sIf bs cc s t) :=
  psWeak (ps_if hc ha hb) fun D σ H ⟨Hs, ρ, S, h⟩ => onE_use bears_b S h fun v x Hs1 H1 ρ1 up S1 r _ _ _ hp => by
    subst r
    cases x with
    | true => rw [if_pos rfl] at hp ⊢; exact ⟨Hs1, ρ1, S1, hp⟩
    | false => rw [if_neg Bool.false_ne_true] at hp ⊢; exact ⟨Hs1, ρ1, S1, hp⟩
theorem vs_while {c : Expr} {body : List Stmt} {cc : Ev → R Bool} (hp : PassesOwn (model X.prog X.w) X.A X.env X.xe) (hc : PT X c (tt X.K cl W cc)) (hb : PVs X cl W He H0 body s) : PV1 X cl W He H0 (.While c body [] pos) (sWhile bs cc s) :=
  psWeak (ps_while hp hc hb) fun D σ H ⟨Hs, ρ, S, h⟩ => by
    have hx : ∃ n o, wN bs cc s n ρ = some o ∧ Post X.K cl He H0 W Hs D o := by
      unfold sWhile at h
      split at h
      · rename_i hx
        obtain ⟨n, e⟩ := hx.choose_spec
        exact ⟨n, _, e, h⟩
      · exact h.elim
    obtain ⟨n0, o0, e0, p0⟩ := hx
    refine ⟨fun m σ H => ∃ Hs1 ρ o, Sub Hs Hs1 ∧ SEnv X.K cl He H0 Hs1 H σ ρ ∧ wN bs cc s m ρ = some o ∧ Post X.K cl He H0 W Hs1 D o, ⟨n0, Hs, ρ, o0, Sub.refl _, S, e0, p0⟩, ?_⟩
    rintro m σ H ⟨Hs1, ρ, o, up, S, e, p⟩
    cases m with
    | zero => cases e
    | succ m =>
      -- the test
      have key : Post X.K cl He H0 W Hs1 { nx := fun σ' H' => False, rt := D.rt, bk := D.bk, ct := D.ct } (onE (fun _ => true) cc bs ρ fun b ρ' => .stuck) ∨ ∃ b, cc (vw bs ρ) = .ok b := by
        unfold wN at e
        cases ec : cc (vw bs ρ) with
        | ok b => exact .inr ⟨b, rfl⟩
        | exc c fs =>
          simp only [ec] at e
          cases e
          refine .inl ?_
          unfold onE
          rw [ec]
          exact p
        | stuck => simp only [ec] at e; cases e; exact p.elim
      rcases key with key | ⟨b, ec⟩
      · exact onE_use (Q := fun b H1 => if b = true then _ else _) bears_b S key fun v x Hs2 H2 ρ2 _ _ _ _ _ _ z => z.elim
      · have S' := S
        refine ⟨_, _, S.pe bs, ?_⟩
        rw [ec]
        intro b' Hs2 H2 x2 eb
        subst eb
        obtain ⟨S2, up2⟩ := S.back x2
        unfold wN at e
        simp only [ec] at e
        cases b' with
        | false =>
          simp only at e
          cases e
          rw [if_neg Bool.false_ne_true]
          exact p _ _ _ up2 S2
        | true =>
          simp only at e
          rw [if_pos rfl]
          refine ⟨fun σ H => ∃ Hs1 ρ o, Sub Hs Hs1 ∧ SEnv X.K cl He H0 Hs1 H σ ρ ∧ wN bs cc s m ρ = some o ∧ Post X.K cl He H0 W Hs1 D o, fun σ' H' h => ⟨m, Nat.lt_succ_self m, h⟩, ?_⟩
          refine ⟨_, ρ, S2, ?_⟩
          have p2 := Post.up p up2
          cases es : s ρ with
          | next ρ' => simp only [es] at e; exact fun σ' Hs' H' up' S' => ⟨Hs', ρ', o, (up.trans up2).trans up', S', e, Post.up p2 up'⟩
          | cont ρ' => simp only [es] at e; exact fun σ' Hs' H' up' S' => ⟨Hs', ρ', o, (up.trans up2).trans up', S', e, Post.up p2 up'⟩
          | brk ρ' => simp only [es] at e; cases e; exact p2
          | ret v => simp only [es] at e; cases e; exact p2
          | exc c fs ρ' => simp only [es] at e; cases e; exact p2
          | stuck => simp only [es] at e; cases e; exact p2.elim
theorem vs_for {rel : Hp → It → List PV → Prop} {nl : Bool} {tg iter : Expr} {body : List Stmt} {it : Ev → R (List PV)} {g : TG} {t : Tg} (hp : PassesOwn (model X.prog X.w) X.A X.env X.xe) (hc : X.calm = true) (B : Bears X.K cl rel (fun _ => nl)) (hR : ∀ Hs J xs, rel Hs J xs → Wk X.K cl Hs J xs) (hi : PI X tg iter (gv X.K cl rel W it)) (hg : PG X tg g) (hG : TgOk X.K cl g t) (hb : PVs X cl W He H0 body s)
    (hs : ∀ x, foldedSetIterable iter X.env x = pure x := by intro _; rfl) : PV1 X cl W He H0 (.For tg iter body [] pos) (sFor nl t bs it s) :=
  psWeak (ps_for hp hc hi hg hb hs) fun D σ H ⟨Hs, ρ, S, h⟩ => onE_use B S h fun xs J Hs1 H1 ρ1 up S1 rx _ _ _ hp => by
    have Wj := hR _ _ _ rx
    refine ⟨fun i m σ H => ∃ Hs2 ρ, i + m = xs.length ∧ Sub Hs1 Hs2 ∧ SEnv X.K cl He H0 Hs2 H σ ρ ∧ Post X.K cl He H0 W Hs2 D (forL t s (xs.drop i) ρ), ⟨xs.length, Hs1, ρ1, by omega, Sub.refl _, S1, by simpa using hp⟩, ?_⟩
    rintro i m σ H ⟨Hs2, ρ, em, up2, S2, hp⟩
    by_cases hi : i < xs.length
    · refine .inr ⟨Wj.go i H Hs2 up2 S2.sub hi, fun σ' H' => ∃ Hs2 ρ, Sub Hs1 Hs2 ∧ SEnv X.K cl He H0 Hs2 H' σ' ρ ∧ Post X.K cl He H0 W Hs2 D (forL t s (xs.drop (i + 1)) ρ), fun σ' H' ⟨Hs3, ρ3, q⟩ => ⟨m - 1, by omega, Hs3, ρ3, by omega, q⟩, fun x H' hy => ?_⟩
      have ev : xs[i]? = some xs[i] := List.getElem?_eq_getElem hi
      obtain ⟨Hs3, x3, rx3⟩ := Wj.yld i x H H' Hs2 xs[i] up2 S2.sub ev hy
      have S3 : SEnv X.K cl He H0 Hs3 H' σ ρ := ⟨S2.ext.trans x3, S2.len, fun j v' e => let ⟨q, a1, a2⟩ := S2.fz j v' e; ⟨q, a1, a2.mono x3.fs⟩, fun j ys e => let ⟨q, a0, a1, a2, a3, a4, a5⟩ := S2.own j ys e; ⟨q, a0, a1, x3.same _ _ a2, a3.mono x3.fs, x3.nw q (by rw [a2]; simp) a4, a5⟩, S2.inj⟩
      rw [List.drop_eq_getElem_cons hi] at hp
      unfold forL at hp
      cases et : t xs[i] with
      | none => rw [et] at hp; exact hp.elim
      | some as =>
        simp only [et] at hp
        refine hG Hs3 H' σ x xs[i] as _ x3.sub rx3 et fun vs rv => ?_
        refine ⟨Hs3, _, S3.sets rv, ?_⟩
        have hp3 := Post.up hp x3.fs
        have up13 := up2.trans x3.fs
        cases es : s (setS as ρ) with
        | next ρ' => simp only [es] at hp3; exact fun σ' Hs' H' up' S' => ⟨Hs', ρ', up13.trans up', S', Post.up hp3 up'⟩
        | cont ρ' => simp only [es] at hp3; exact fun σ' Hs' H' up' S' => ⟨Hs', ρ', up13.trans up', S', Post.up hp3 up'⟩
        | brk ρ' => simp only [es] at hp3; exact hp3
        | ret v => simp only [es] at hp3; exact hp3
        | exc c fs ρ' => simp only [es] at hp3; exact hp3
        | stuck => simp only [es] at hp3; exact hp3.elim
    · have hz : xs.drop i = [] := List.drop_of_length_le (by omega)
      rw [hz] at hp
      exact .inl ⟨Wj.stop i H Hs2 up2 S2.sub (by omega), hp _ _ _ (Sub.refl _) S2⟩
end
end VL
namespace VL
open PySem PySem.Spec PyProof.Rows L2
open PySem.W (KxsFacts kxs_mw KxsAt kxs_callWith kxs_getMethod kxs_ValueError check_bound_init InstAt)
/-! ### own errors: an __init__ that begins with super().__init__(..) -/
/-- the bound built-in __init__, called -/
theorem mw_call {prog : Program} {w : World} {A : Around} {E : Value → Shared → Prop} {hp : Heap} {gs : Array GenState} {dr : Drawn} {tk : Nat} {os : OsState} {nm qn : Str} {C N : Addr} {bs bm : List Value} {hd : Bool} {sn : List Str} {sb : List Value} {ab : Bool} {co : Option Bool} {dd : Option Addr} {k0 k1 k2 k3 k5 : Option Value} {u x t0 : Addr} {us : List Value} {Q : Value → Shared → Prop}
    (cls : hp.get? C = some (excClassObj nm qn C N bs bm hd sn sb ab co dd k0 k1 k2 k3 k5 "ValueError.__new__")) (hx : hp.get? x = some (PySem.HandSPX.excO C t0)) (hu : hp.get? u = some (kxs_mw "ValueError.__init__" x)) (few : us.length ≤ sizeLine)
    (fin : ∀ hq t1, (∀ b o, b ≠ x → hp.get? b = some o → hq.get? b = some o) → hq.get? x = some (PySem.HandSPX.excO C t1) → Q .none ⟨hq, gs, dr, tk, os⟩) :
    wpAny (model prog w) A (call (.ref u) us) Q E ⟨hp, gs, dr, tk, os⟩ := by
  have FB := PySem.F.excBase_ValueError
  refine wpAny_call (codeAny_of_tree ?_)
  show wpAny (model prog w) A.in1 (callAny (.ref u) ⟨us, []⟩) _ _ ⟨hp, gs, dr, tk, os⟩
  unfold callAny
  refine wpAny_bind (wpAny_load hu ?_)
  have e1 : ((Value.type "method-wrapper" == Value.type "method" || Value.type "method-wrapper" == Value.type "builtin_function_or_method") || Value.type "method-wrapper" == Value.type "method-wrapper") = true := by decide
  simp only [kxs_mw, e1, ite_true]
  refine PySem.W.KFB.if_so (by decide) ?_
  refine wpAny_bind (check_bound_init FB.toExcCallFacts cls hx rfl ?_)
  refine wpAny_bind (wpAny_pure (wpAny_pure ⟨plainId_quiet FB.init.plain _, codeAny_builtin FB.initEntry ?_⟩))
  exact PySem.W.exc_init_tree (cls := .ref C) (t0 := t0) (dv := none) (c2 := .none) (c3 := .none) (b4 := .bool false) hx few fun hq k e _ => fin hq _ k e

/-- what the written part says of an own error's class, at C, whose __init__ (at fI, its cell at cc, its code at cda) begins with super().__init__ -/
structure ExC (K : PySem.W.Frag) (P : Program) (C fI cc cda : Addr) (qual : Str) (sI : Stmt) : Prop where
  base : OexC K C
  fn : ∃ (oc : Value) (od : Option Addr) (kV doc pm : Value) (an : Option Addr) (ct : Value) (osl : Array (Option Value)), K.lookup fI = some ⟨oc, od, .func (PySem.W.ksFn "__init__" qual (defArgs sI) (defBody sI) (defScope sI) .none kV doc pm an (.ref cda) ct cc), osl⟩
  code : PySem.W.codeIn K (.ref cda) qual = true
  file : ∃ (oc : Value) (od : Option Addr) (vs : Array Value) (osl : Array (Option Value)) (f : Str) (tf : Tok), K.lookup cda = some ⟨oc, od, .fields vs, osl⟩ ∧ vs[2]? = some (.str f tf) ∧ ((P.main.file : Str) == f) = true
  cell : ∃ (oc : Value) (od : Option Addr) (osl : Array (Option Value)), K.lookup cc = some ⟨oc, od, .cell (some (.ref C)), osl⟩
  sup : PySem.W.ks_superIn K C C "__init__" = some (some (.builtin "ValueError.__init__"))
  self : PySem.W.mroIn K C (.ref C) = some true
  ve : PySem.W.subIn K (.ref C) (.type "ValueError") = some true
  noS : PySem.W.nsIn K mainGlobals "super" = some none
  third : PySem.W.nsIn K cStatics "thirdparty.any" = some none
  ini : PySem.W.findIn K (.ref C) "__init__" = some (some (.ref fI))
  tyI : PySem.W.typeIn K (.ref fI) = some (.type "function")
/-- the scope of such an __init__: its parameters N, and __class__ -/
structure ExScope (N : List Str) (sc : Scope) : Prop where
  kind : sc.kind = .function
  co : sc.isCoroutine = false
  gen : sc.isGenerator = false
  nd : N.Nodup
  par : ∀ x ∈ N, sc.names.lookup x = some .local
  nocell : ∀ x ∈ sc.names, x.2 ≠ .cell
  only : ∀ x, sc.names.lookup x = some .free → x = "__class__"
  cls : sc.names.lookup ("__class__" : Str) = some .free
  sup : sc.names.lookup ("super" : Str) = some .globalImplicit
/-- the context of the body behind the first statement -/
def exCx (CX : CXT) (P : Program) (w : World) (K : PySem.W.Frag) (mg : Str → Option Value) (base : Heap) (N : List Str) (qual : Str) (scope : Scope) (f : Addr) (cd : Value) (cc : Addr) (A : Around) (outer : List PySem.Env) (s : Shared) (H : Hp) (E : XK) : Cx where
  prog := P
  w := w
  K := K
  mg := mg
  base := base
  A := A.deeper (PySem.W.ksEnv qual scope s.heap.objs.size f cd cc)
  N := N
  s_0 := s
  H_0 := H
  env := PySem.W.ksEnv qual scope s.heap.objs.size f cd cc
  outer := outer
  stack := PySem.W.ksEnv qual scope s.heap.objs.size f cd cc :: outer
  ex := []
  calm := true
  fn := fun _ => false
  pn := []
  xe := fun e s' => wpAny (model P w) (A.deeper (PySem.W.ksEnv qual scope s.heap.objs.size f cd cc)) (leaving (PySem.W.ksEnv qual scope s.heap.objs.size f cd cc) e) (fun _ s'' => CX outer H s E e s'') (fun e' s'' => CX outer H s E e' s'') s'
theorem zip_lookup : ∀ {N : List Str} {us : List Value} {i : Nat} {x : Str} {u : Value}, N.Nodup → N[i]? = some x → us[i]? = some u → (N.zip us).reverse.lookup x = some u := by
  intro N us i x u nd h1 h2
  have hm : (x, u) ∈ (N.zip us).reverse := by
    rw [List.mem_reverse]
    refine List.mem_of_getElem? (i := i) ?_
    rw [List.getElem?_zip_eq_some]
    exact ⟨h1, h2⟩
  have nd2 : ((N.zip us).reverse.map (·.1)).Nodup := by
    rw [List.map_reverse]
    refine (List.reverse_perm _).nodup_iff.mpr ?_
    have : ∀ (N : List Str) (us : List Value), N.Nodup → ((N.zip us).map (·.1)).Nodup := by
      intro N
      induction N with
      | nil => intro us _; simp
      | cons n N ih =>
        intro us nd
        cases us with
        | nil => simp
        | cons v us =>
          simp only [List.zip_cons_cons, List.map_cons, List.nodup_cons]
          rw [List.nodup_cons] at nd
          refine ⟨fun h => nd.1 ?_, ih us nd.2⟩
          rw [List.mem_map] at h
          obtain ⟨⟨a, b⟩, h1, h2⟩ := h
          subst h2
          exact (List.of_mem_zip h1).1
    exact this N us nd
  generalize (N.zip us).reverse = l at hm nd2
  induction l with
  | nil => simp at hm
  | cons p l ih =>
    obtain ⟨a, b⟩ := p
    simp only [List.map_cons, List.nodup_cons] at nd2
    rcases List.mem_cons.mp hm with e | hm
    · cases e; simp [List.lookup]
    · have : x ≠ a := fun e => nd2.1 (by rw [← e]; exact List.mem_map_of_mem (f := (·.1)) hm)
      have e2 : (x == a) = false := by simpa using this
      simp only [List.lookup, e2]
      exact ih hm nd2.2
section
variable {CX : CXT} {P : Program} {w : World} {K : PySem.W.Frag} {mg : Str → Option Value} {base : Heap} {N : List Str} {qual : Str} {scope : Scope} {f C cc cda : Addr} {cd : Value} {A : Around} {outer : List PySem.Env} {s : Shared} {H : Hp} {E : XK} {us : List Value} {vs : List V}
theorem ex_start (S : ExScope N scope) (hd : A.handled = none) (e0 : Env0 P w K mg base A outer s H) (hl : vs.length = N.length) (r : Vals vs us) (hcell : ∃ v, s.heap.IsCell cc v) (hccb : ∃ o, base.get? cc = some o) {h1 : Heap} {tk : Nat}
    (hns : h1.Ns s.heap.objs.size (fun x => (N.zip us).reverse.lookup x)) (hk : ∀ b o, s.heap.get? b = some o → h1.get? b = some o) :
    Inv (exCx CX P w K mg base N qual scope f cd cc A outer s H E) [] (vs.map some) H { s with heap := h1, toks := tk } := by
  have noA : ∀ b : Addr, b ∉ (exCx CX P w K mg base N qual scope f cd cc A outer s H E).ex := fun b z => absurd (show b ∈ ([] : List Addr) from z) (by simp)
  have cl1 : ∀ {y : Str} {c : Addr}, ([(("__class__" : Str), cc)] : List (Str × Addr)).lookup y = some c → y = "__class__" ∧ c = cc := fun {y c} h => by
    by_cases e : y = "__class__"
    · subst e
      simp [List.lookup] at h
      exact ⟨rfl, h.symm⟩
    · have e2 : (y == ("__class__" : Str)) = false := by simpa using e
      simp [List.lookup, e2] at h
  obtain ⟨ob, hob⟩ := hccb
  refine ⟨⟨e0.mod, S.kind, rfl, rfl, Nat.le_refl _, fun y z c h1 h2 => (cl1 h1).1.trans (cl1 h2).1.symm, fun y hy => ?_, fun y c h _ => Bool.noConfusion h, fun _ => hd, Around.frames_deeper e0.frames, .inr ⟨rfl, rfl⟩, fun b z => absurd z (noA b), e0.bs, e0.bsz, fun b _ _ => noA b, fun b z => absurd z (noA b), e0.funs, e0.frf⟩,
    rfl, e0.bare, Un.kept hk, ⟨_, hns, fun i y v h1 h2 h3 => ?_⟩, fun y c h => ?_, e0.hok.fresh (Nat.le_refl _), fun y c h => ?_, fun p hp => absurd (show p ∈ ([] : List (Addr × Obj)) from hp) (by simp), e0.hok.kept hk, by simp only [List.length_map]; exact hl⟩
  · rcases hy with hy | hy
    · have hy : scope.names.lookup y = some .cell := hy
      exact absurd rfl (S.nocell _ (PySem.mem_of_lookup hy))
    · have hy : scope.names.lookup y = some .free := hy
      have e := S.only y hy
      subst e
      exact ⟨cc, by simp [exCx, List.lookup]⟩
  · have h2' : (vs.map some)[i]? = some (some v) := h2
    rw [List.getElem?_map] at h2'
    cases e : vs[i]? with
    | none => rw [e] at h2'; cases h2'
    | some a =>
      rw [e] at h2'
      cases h2'
      obtain ⟨u, hu, rv⟩ := r.get e
      refine ⟨u, rv, .inl ⟨S.par y (List.mem_of_getElem? h1), zip_lookup S.nd h1 hu⟩⟩
  · obtain ⟨_, e⟩ := cl1 h
    subst e
    obtain ⟨v, o, ho, q⟩ := hcell
    exact ⟨v, o, hk _ _ ho, q⟩
  · obtain ⟨_, e⟩ := cl1 h
    subst e
    exact (e0.bs c ob hob).2
end
/-- THE RULE for such an __init__: the written argument of super().__init__ and the rest of the body -/
theorem ex_fn {CX : CXT} {P : Program} {w : World} {K : PySem.W.Frag} {mg : Str → Option Value} {base : Heap} {k : Nat} {C fI cc cda : Addr} {qual : Str} {sI : Stmt} {N : List Str} {sp : Sp} {p0 p1 p2 p3 p4 : Pos} {a0 : Expr} {rest : List Stmt} {ar : Arg}
    (T : ExC K P C fI cc cda qual sI) (S : ExScope N (defScope sI)) (hbody : defBody sI = .Expr (.Call (.Attribute (.Call (.Name "super" p0) [] [] p1) "__init__" p2) [a0] [] p3) p4 :: rest)
    (hpar : ((defArgs sI).posonlyargs ++ (defArgs sI).args).head? = some ar) (h0 : N[0]? = some ar.arg) (htop : (P.main.scope.names.lookup ("super" : Str)).isSome = false)
    (hmg : mg "super" = none)
    (hsw : ∀ env : PySem.Env, swapsWith (.Call (.Attribute (.Call (.Name "super" p0) [] [] p1) "__init__" p2) [a0] [] p3) none p4.line env = pure false)
    (hev : ∀ env : PySem.Env, ∃ pl : Sem Bool, eval (.Call (.Attribute (.Call (.Name "super" p0) [] [] p1) "__init__" p2) [a0] [] p3) env = (do
      let ov ← attributeBase (.Call (.Name "super" p0) [] [] p1) "__init__" env (eval (.Call (.Name "super" p0) [] [] p1) env)
      standAt p2.atName
      let (f, first) ← holding [ov] (getMethod ov "__init__" pl)
      callWith p3 f first (backTo p3 (starEach [a0] env)) []))
    (hst : ∀ env : PySem.Env, starEach [a0] env = [(false, eval a0 env)])
    (len : ∀ vs H Q E, sp vs H Q E → vs.length = N.length)
    (hb : ∀ (A : Around) (outer : List PySem.Env) (s : Shared) (H : Hp) (vs : List V) (Q : VK) (E : XK), Room k (A.deeper (PySem.W.ksEnv qual (defScope sI) s.heap.objs.size fI (.ref cda) cc)) → sp vs H Q E →
      ∃ x ws t0 t, vs = .ref x :: ws ∧ H x = some (exo x C none) ∧ PE (exCx CX P w K mg base N qual (defScope sI) fI (.ref cda) cc A outer s H E) a0 t0 ∧ PSs (exCx CX P w K mg base N qual (defScope sI) fI (.ref cda) cc A outer s H E) rest t ∧
        t0 (vs.map some) H (fun _ H1 => H1 = H) ∧ t { nx := fun _ H' => Q .non H', rt := Q } (vs.map some) H) :
    ∀ fd oc od osl, K.lookup fI = some ⟨oc, od, .func fd, osl⟩ → FnOk P w K mg base CX (k + 1) fI fd N sp := by
  obtain ⟨oc, od, kV, doc, pm, an, ct, osl, lk⟩ := T.fn
  intro fd oc' od' osl' lk'
  rw [lk] at lk'
  obtain ⟨rfl, rfl, rfl, rfl⟩ : oc = oc' ∧ od = od' ∧ PySem.W.ksFn "__init__" qual (defArgs sI) (defBody sI) (defScope sI) .none kV doc pm an (.ref cda) ct cc = fd ∧ osl = osl' := by
    have e := Option.some.inj lk'
    injection e with e1 e2 e3 e4
    injection e3 with e3
    exact ⟨e1, e2, e3, e4⟩
  refine ⟨len, fun A outer s H args us vs Q E hr e0 hbd r hsp => ?_⟩
  have hl := len _ _ _ _ hsp
  have KX : K.In s.heap := e0.mod.kin.keeps fun b o e => (e0.bs b o e).1
  have lim : s.heap.NoLimit := e0.mod.nolimit.keeps fun b o e => (e0.bs b o e).1
  obtain ⟨x, ws, t0, t, evs, eH, hp0, hps, q0, qt⟩ := hb A outer s H vs Q E (hr.deeper _) hsp
  obtain ⟨oc3, od3, osl3, hcell⟩ := T.cell
  have lv : us.length = N.length := by rw [← r.length, hl]
  refine ks_codeAny_call_defAt (fd := PySem.W.ksFn "__init__" qual (defArgs sI) (defBody sI) (defScope sI) .none kV doc pm an (.ref cda) ct cc) (body := defBody sI) (binds := N.zip us) hr.depth (KX _ _ lk) rfl lim (PySem.W.codeRec_of KX T.code) rfl hbd S.nocell (fun y hy => S.par y.1 (List.of_mem_zip (a := y.1) (b := y.2) hy).1) (fun h1 hns hk => ?_) S.co S.gen S.kind
  have I : Inv (exCx CX P w K mg base N qual (defScope sI) fI (.ref cda) cc A outer s H E) [] (vs.map some) H { s with heap := h1, toks := s.toks + (N.zip us).length } :=
    ex_start S hr.hd e0 hl r ⟨_, _, KX _ _ hcell, rfl⟩ ⟨_, e0.mod.kin _ _ hcell⟩ hns hk
  -- the parts
  obtain ⟨nm, qn, Nn, bs, bm, sn, sb, ab, co, dd, k0, k1, k2, k3, k5, hC, hbm⟩ := T.base.cls
  have hcl : PySem.W.clsIn K C = some { name := nm, bases := bs, mro := .ref C :: bm, ns := Nn, qualname := qn, hasDict := true, slotNames := sn, subclasses := sb, abstract := ab, collection := co, hasDel := false } := by
    unfold PySem.W.clsIn
    rw [hC] <;> rfl
  obtain ⟨oc4, od4, fvs, osl4, ff, tf, hcode, hf2, hfile⟩ := T.file
  have K1 : K.In h1 := I.kIn
  obtain ⟨t1, ho⟩ := exo_at I.hok eH
  have hx0 : us[0]? = some (.ref x) := by
    subst evs
    cases r with
    | cons rv rt => cases rv; rfl
  have hself : (N.zip us).reverse.lookup ar.arg = some (.ref x) := zip_lookup S.nd h0 hx0
  have hxs : x < s.heap.objs.size := e0.hok.lt eH
  let env := PySem.W.ksEnv qual (defScope sI) s.heap.objs.size fI (.ref cda) cc
  show PySem.wpAt _ (A.deeper env) (.func (defBody sI) env) (execs (defBody sI) env) _ _ _
  obtain ⟨mb, hb1, hb2⟩ := e0.mod.blt
  have IA : InstAt h1 x (PySem.HandSPX.excO C t1) C none := ⟨ho, rfl, rfl, trivial⟩
  have hxC : x ≠ C := PySem.W.ks_ne K1 IA hcl
  -- behind super().__init__(..): the rest
  have after : ∀ (s2 : Shared), Inv (exCx CX P w K mg base N qual (defScope sI) fI (.ref cda) cc A outer s H E) [] (vs.map some) H s2 →
      wpAny (model P w) (A.deeper env) (execs rest env) (fun fl s' => CR CX outer P w H s Q E (.ok (.ret (match fl with | .ret v => v | _ => .none))) s')
        (fun e s' => wpAny (model P w) (A.deeper env) (leaving env e) (fun _ s'' => CR CX outer P w H s Q E (.error e) s'') (fun e' s'' => CR CX outer P w H s Q E (.error e') s'') s') s2 := by
    intro s2 I2
    refine wpAny_mono (hps.run [] s2 (vs.map some) H _ I2 qt) (fun fl s' hs => ?_) fun e s' hs => hs
    have fin : ∀ {σ' : St} {H' : Hp} {v : V} {u : Value}, Inv (exCx CX P w K mg base N qual (defScope sI) fI (.ref cda) cc A outer s H E) [] σ' H' s' → RelV v u → Q v H' → CE outer P w H s Q u s' :=
      fun {σ' H' v u} J rv q => ⟨v, H', J.os, J.bare, J.base, J.hok, rv, q⟩
    cases fl with
    | ret u =>
      obtain ⟨v, σ', H', J, rv, q⟩ := hs
      exact fin J rv q
    | next =>
      obtain ⟨σ', H', J, q⟩ := hs
      exact fin (v := V.non) (u := Value.none) J rfl q
    | brk => exact hs.elim fun _ z => z.elim fun _ z => z.2.elim
    | cont => exact hs.elim fun _ z => z.elim fun _ z => z.2.elim
  have nx : interactive env = false := by simp [interactive, env, S.kind]
  have go : PySem.wpAt (model P w) (A.deeper env) (.func (defBody sI) env) (eval (.Call (.Attribute (.Call (.Name "super" p0) [] [] p1) "__init__" p2) [a0] [] p3) env)
      (fun _ s2 => Inv (exCx CX P w K mg base N qual (defScope sI) fI (.ref cda) cc A outer s H E) [] (vs.map some) H s2)
      (fun e s' => wpAny (model P w) (A.deeper env) (leaving env e) (fun _ s'' => CR CX outer P w H s Q E (.error e) s'') (fun e' s'' => CR CX outer P w H s Q E (.error e') s'') s') { s with heap := h1, toks := s.toks + (N.zip us).length } := by
    obtain ⟨pl, hev⟩ := hev env
    refine ks_wpAt_MethodCall (pl := pl) ?_ hev
    refine ks_wpAt_super_base (f := fI) (cc := cda) (env := env) (ar := ar) (file := ff) (tf := tf) (vs := fvs) S.sup S.cls (by decide) rfl (K1 _ _ lk) rfl hpar rfl (K1 _ _ hcode) rfl hf2 hfile htop ?_
    refine PySem.W.ks_loadName_global S.kind S.sup (PySem.Calls.loadGlobal_builtin (env := env) (mb := mb) (I.mod.glob.keeps I.bk) hmg (hb1.keeps I.bk) ((hb2 _ (by decide)).trans (by first | boot_by_name | decide +kernel)) ⟨rfl, ?_⟩)
    refine wpAny_loadName_free (c := cc) S.kind S.cls (by simp [env, List.lookup]) ⟨_, K1 _ _ hcell, rfl⟩ ?_
    refine wpAny_loadName_local S.kind (S.par _ (List.mem_of_getElem? h0)) hns hself ?_
    refine ks_wpAny_isType_cls (K1 _ _ hC) rfl ⟨rfl, ?_⟩
    refine ks_wpAny_call_super (K1 _ _ hC) rfl ho rfl (fun c e => nomatch e) (PySem.W.looks_mroIn K1 T.self) (fun h2 e2 kk2 => ?_)
    have I2 : Inv (exCx CX P w K mg base N qual (defScope sI) fI (.ref cda) cc A outer s H E) [] (vs.map some) H { s with heap := h2, toks := s.toks + (N.zip us).length } := I.kept (h' := h2) (t' := s.toks + (N.zip us).length) kk2
    have K2 : K.In h2 := I2.kIn
    have ho2 := kk2 _ _ ho
    have hm2 : (PySem.W.clsIn K C).bind (fun cd => PySem.W.alongIn K "__init__" ((cd.mro.dropWhile (· != .ref C)).drop 1)) = some (some (.builtin "ValueError.__init__")) := T.sup
    rw [hcl] at hm2
    have IA2 : InstAt h2 x (PySem.HandSPX.excO C t1) C none := ⟨ho2, rfl, rfl, trivial⟩
    refine kxs_getMethod kxs_ValueError e2 (PySem.W.looks_opaque K2 T.third) (l₀ := .ref C :: bm) (fun A' Q' E' s' k' q' => wpAny_bind ((PySem.W.looks_clsIn K2 hcl) A' _ E' s' k' (wpAny_pure q'))) rfl K2 hm2 (IA2.type.andThen (PySem.W.looks_subIn K2 T.ve)) hxC (by decide) ?_
    -- the wrapper stands at u
    have I3 : Inv (exCx CX P w K mg base N qual (defScope sI) fI (.ref cda) cc A outer s H E) [] (vs.map some) H { s with heap := h2.push (kxs_mw "ValueError.__init__" x), toks := s.toks + (N.zip us).length + 1 } := I2.kept (t' := s.toks + (N.zip us).length + 1) fun b o e => Heap.get?_push_of_some _ e
    have hu3 : (h2.push (kxs_mw "ValueError.__init__" x)).get? h2.objs.size = some (kxs_mw "ValueError.__init__" x) := Heap.get?_push_size _ rfl
    have hun : H h2.objs.size = none := I2.hok.fresh (Nat.le_refl _)
    have I4 := I3.pins_of (pins' := [(h2.objs.size, kxs_mw "ValueError.__init__" x)]) (fun p hp => by
      have e : p = (h2.objs.size, kxs_mw "ValueError.__init__" x) := by simpa using hp
      subst e
      exact ⟨hu3, hun, Nat.ne_of_gt I2.lt, I2.nofs (Nat.le_refl _), fun v z => nomatch z⟩)
    refine kxs_callWith (i := "ValueError.__init__") (x := x) (by rw [hst]; rfl) ?_
    rw [hst]
    refine PySem.Calls.evalArgs_plain (PySem.Calls.spliced_cons (wpAny_mono (hp0.run _ _ (vs.map some) H _ I4 q0) (fun u s3 ⟨v0, H5, I5, r5, e5⟩ => PySem.Calls.spliced_nil ?_) fun _ _ z => z))
    subst e5
    have hw := (I5.pin (h2.objs.size, kxs_mw "ValueError.__init__" x) (by simp [exCx])).1
    refine ⟨hw, ?_⟩
    obtain ⟨t5, ho5⟩ := exo_at I5.hok eH
    obtain ⟨hp5, g5, d5, tk5, os5⟩ := s3
    refine mw_call (I5.kIn _ _ hC) ho5 hw (by rw [sizeLine_eq]; exact (by decide : 1 ≤ 16777216)) fun hq tq kq eq => ?_
    have J := I5.write (t' := tk5) (x := x) (e := x) (o := exo x C none) (by rw [eH]; exact True.intro) (.inl rfl) kq ⟨_, eq⟩ (exo_ok eq)
    have eu : upd H5 x (exo x C none) = H5 := by
      funext b
      by_cases hb : b = x
      · rw [hb, upd_same, eH]
      · rw [upd_ne hb]
    rw [eu] at J
    exact J.pins_of (pins' := []) (fun p hp => absurd hp (by simp))
  rw [hbody] at go ⊢
  refine ks_wpAt_execs_cons (ks_wpAt_Expr_any (ks_wpAt_mono go (fun _ s2 I2 => ?_) fun _ _ z => z) nx (hsw env))
  exact PySem.wpAt_of_wpAny (after s2 I2)
end VL
namespace VL
open PySem PySem.Spec PyProof.Rows L2
/-! ### calls of the text's own defs -/
/-- a def's promise by a plain function of its arguments -/
def spP (K : PySem.W.Frag) (cl : Nat → Addr) (Hs H : Hp) (Q : VK) (E : XK) : R PV → Prop
  | .ok v => ∀ x Hs' H', Ext Hs H Hs' H' → Rp K cl Hs' x v → Q x H'
  | .exc c fs => ∀ d fvs Hs' H', Ext Hs H Hs' H' → Hs' d = some (.xd fvs) → RpF K cl Hs' fvs fs → E (.ref (cl c)) (some d) H'
  | .stuck => False
def spF (K : PySem.W.Frag) (cl : Nat → Addr) (n : Nat) (g : List PV → R PV) : Sp := fun vs H Q E => ∃ Hs us, Sub Hs H ∧ RpA K cl Hs vs us ∧ vs.length = n ∧ spP K cl Hs H Q E (g us)
def gN (n : Nat) (g : List PV → R PV) : List PV → R PV := fun us => if us.length = n then g us else .stuck
section
variable {X : Cx} {cl : Nat → Addr} {W : WX} {pos p : Pos} {x : Str} {k n : Nat} {f : Addr} {fd : FuncData} {ps : List Str} {g : List PV → R PV}
theorem sp_use {vs : List V} {us : List PV} {σ : St} {Hs H : Hp} {Q : VK} {K : PySem.W.Frag} (s : Sub Hs H) (r : RpA K cl Hs vs us) (h : GP K cl (Rp K cl) W Hs H σ (gN n g us) Q) : spF K cl n g vs H Q (WE W σ) := by
  unfold gN at h
  split at h
  · rename_i hl
    refine ⟨Hs, us, s, r, by rw [r.length, hl], ?_⟩
    cases e : g us with
    | ok v => rw [e] at h; exact h
    | exc c fs => rw [e] at h; exact h
    | stuck => rw [e] at h; exact h
  · exact h.elim
theorem ve_call {e : Expr} {es : List Expr} {fs : List Ex} (F : FnOk X.prog X.w X.K X.mg X.base (L2.CX X.prog X.w) k f fd ps (spF X.K cl n g)) (hr : Room k X.A) (hm : X.mg x = some (.ref f)) (hk : PySem.W.keepIn X.K (.ref f) = true) (hb : Binds X.K fd ps []) (tk : Takes X W) (ha : PA X (e :: es) (ta X.K cl W (evs fs)))
    (hg : Gl X x := by rfl) (hdb : (x == ("__debug__" : Str)) = false := by decide) (he : starEach (e :: es) X.env = (false, eval e X.env) :: starEach es X.env := by rfl) (hpl : (backTo pos (starEach es X.env)).any (·.1) = false := by rfl) :
    PE X (.Call (.Name x p) (e :: es) [] pos) (tv X.K cl W (eArgs (gN n g) fs)) :=
  peWeak (pe_callSD (dvs := []) (E := fun σ => WE W σ) F hr hg hm hk hb .nil (fun σ => passAt tk σ) ha hdb he hpl) fun σ H Q ⟨Hs, ρ, E, h⟩ => by
    refine gv_bind E h fun us vs Hs1 H1 _ s1 rx h1 => ?_
    show spF X.K cl n g (vs ++ []) H1 Q (WE W σ)
    rw [List.append_nil]
    exact sp_use s1.sub rx h1
theorem ve_call0 (F : FnOk X.prog X.w X.K X.mg X.base (L2.CX X.prog X.w) k f fd ps (spF X.K cl n g)) (hr : Room k X.A) (hm : X.mg x = some (.ref f)) (hk : PySem.W.keepIn X.K (.ref f) = true) (hb : Binds X.K fd ps []) (tk : Takes X W)
    (hg : Gl X x := by rfl) (hdb : (x == ("__debug__" : Str)) = false := by decide) : PE X (.Call (.Name x p) [] [] pos) (tv X.K cl W (eArgs (gN n g) [])) := by
  refine ⟨fun pins s σ H Q I ⟨Hs, ρ, E, h⟩ => ?_⟩
  refine wpAny_Call_Name_kw (ld_glob I hg hm ?_ hdb)
  exact PySem.W.callWith_K0 I.kIn hk (run_fnSD (us := []) (vs := []) (dvs := []) (E := fun σ => WE W σ) F hr hb .nil (passAt tk σ) I .nil (sp_use E.sub .nil h))
end
/-- a def's slots at its entry -/
def startE (n : Nat) (us : List PV) : Env := us.map Sl.fz ++ List.replicate (n - us.length) Sl.no
def outR : Out → R PV
  | .next _ => .ok .non
  | .ret v => .ok v
  | .exc c fs _ => .exc c fs
  | _ => .stuck
theorem start_ok {K : PySem.W.Frag} {cl : Nat → Addr} {Hs H : Hp} {N : List Str} {vs : List V} {us : List PV} (s : Sub Hs H) (r : RpA K cl Hs vs us) : SEnv K cl Hs H Hs H (L2.start N vs) (startE N.length us) := by
  have get : ∀ {i : Nat} {sl : Sl}, (startE N.length us)[i]? = some sl → (∃ u, us[i]? = some u ∧ sl = .fz u) ∨ sl = .no := fun {i sl} h => by
    unfold startE at h
    by_cases hi : i < us.length
    · rw [List.getElem?_append_left (by simpa using hi), List.getElem?_map] at h
      cases e : us[i]? with
      | none => rw [e] at h; cases h
      | some u => rw [e] at h; cases h; exact .inl ⟨u, rfl, rfl⟩
    · rw [List.getElem?_append_right (by simpa using hi), List.getElem?_replicate] at h
      split at h
      · cases h; exact .inr rfl
      · cases h
  refine ⟨Ext.refl s, ?_, fun i v h => ?_, fun i xs h => ?_, fun i j xs ys a h => ?_⟩
  · unfold L2.start startE
    simp [r.length]
  · rcases get h with ⟨u, e, e2⟩ | e
    · cases e2
      obtain ⟨x, e3, rx⟩ := r.get e
      refine ⟨x, ?_, rx⟩
      unfold L2.start
      have hi : i < vs.length := (List.getElem?_eq_some_iff.mp e3).1
      rw [List.getElem?_append_left (by simpa using hi), List.getElem?_map, e3]
      rfl
    · cases e
  · rcases get h with ⟨u, e, e2⟩ | e
    · cases e2
    · cases e
  · rcases get h with ⟨u, e, e2⟩ | e
    · cases e2
    · cases e
section
variable {P : Program} {w : World} {K : PySem.W.Frag} {mg : Str → Option Value} {base : Heap} {cl : Nat → Addr}
/-- THE RULE for a def: its body as a plain function of the slots -/
theorem def_ok {x qual : Str} {st : Stmt} {f : Addr} {fd : FuncData} {N ps : List Str} {k : Nat} {b : Env → Out} (F : Fun K x qual st f fd) (S : FnScope N ps (defScope st))
    (hbody : ∀ (cdv : Value) (A : Around) (outer : List PySem.Env) (s : Shared) (H : Hp) (E : XK) (He : Hp), Room k (A.deeper (envOfC qual (defScope st) s.heap.objs.size f cdv)) →
      PVs (cxOf (L2.CX P w) P w K mg base N qual (defScope st) f cdv A outer s H E) cl (fun c d _ H => E c d H) He H (defBody st) b) : FnOk P w K mg base (L2.CX P w) (k + 1) f fd ps (spF K cl ps.length fun us => outR (b (startE N.length us))) := by
  refine F.okX S (fun vs H Q E ⟨_, _, _, _, e, _⟩ => e) fun cdv A outer s H vs Q E hr ⟨Hs, us, s1, r, hl, h⟩ => ?_
  refine ⟨_, hbody cdv A outer s H E Hs hr, Hs, _, start_ok s1 r, ?_⟩
  replace h : spP K cl Hs H Q E (outR (b (startE N.length us))) := h
  cases e : b (startE N.length us) with
  | next ρ => rw [e] at h; exact fun σ Hs' H' _ S' => h .non Hs' H' S'.ext .non
  | ret v => rw [e] at h; exact h
  | exc c fs ρ => rw [e] at h; exact fun σ Hs' H' d fvs _ S' e1 r1 => h d fvs Hs' H' S'.ext e1 r1
  | brk ρ => rw [e] at h; exact h.elim
  | cont ρ => rw [e] at h; exact h.elim
  | stuck => rw [e] at h; exact h.elim
/-- a def of which nothing is promised -/
theorem def_none {fd : FuncData} {f : Addr} {ps : List Str} {k n : Nat} : FnOk P w K mg base (L2.CX P w) k f fd ps (spF K cl n fun _ => .stuck) :=
  ⟨fun vs H Q E ⟨_, _, _, _, _, h⟩ => h.elim, fun A outer s H args us vs Q E _ _ _ _ ⟨_, _, _, _, _, h⟩ => h.elim⟩
end

/-! ### raise -/
theorem SEnv.up {K : PySem.W.Frag} {cl : Nat → Addr} {He H0 Hs H Hs1 H1 : Hp} {σ : St} {ρ : Env} (S : SEnv K cl He H0 Hs H σ ρ) (x : Ext Hs H Hs1 H1) : SEnv K cl He H0 Hs1 H1 σ ρ :=
  ⟨S.ext.trans x, S.len, fun j v' e => let ⟨q, a1, a2⟩ := S.fz j v' e; ⟨q, a1, a2.mono x.fs⟩, fun j ys e => let ⟨q, a0, a1, a2, a3, a4, a5⟩ := S.own j ys e; ⟨q, a0, a1, x.same _ _ a2, a3.mono x.fs, x.nw q (by rw [a2]; simp) a4, a5⟩, S.inj⟩
/-- the fields that an __init__ stores behind super().__init__: a written text, or its i-th argument -/
inductive Fv where
  | c (z : Str) | a (i : Nat)
abbrev Fsp := List (Str × Fv)
def fvTE : Fv → TE
  | .c z => tC (.str z)
  | .a i => tVar (i + 1)
def tInit (K : PySem.W.Frag) : Fsp → TS
  | [] => tNext
  | (f, v) :: r => tSeq (tOst K f (tVar 0) (fvTE v)) (tInit K r)
def fvV (vs : List V) : Fv → Option V
  | .c z => some (.str z)
  | .a i => vs[i]?
def fsV (vs : List V) : Fsp → List (Str × V) → Option (List (Str × V))
  | [], acc => some acc
  | (f, v) :: r, acc => (fvV vs v).bind fun y => fsV vs r ((f, y) :: acc)
def fvP (vs : List PV) : Fv → Option PV
  | .c z => some (.str z)
  | .a i => vs[i]?
def fsP (vs : List PV) : Fsp → List (Str × PV) → Option (List (Str × PV))
  | [], acc => some acc
  | (f, v) :: r, acc => (fvP vs v).bind fun y => fsP vs r ((f, y) :: acc)
theorem fs_rel {K : PySem.W.Frag} {cl : Nat → Addr} {Hs : Hp} {vs : List V} {us : List PV} (r : RpA K cl Hs vs us) : ∀ {sp : Fsp} {acc : List (Str × V)} {acc' fs' : List (Str × PV)}, RpF K cl Hs acc acc' → fsP us sp acc' = some fs' → ∃ fs, fsV vs sp acc = some fs ∧ RpF K cl Hs fs fs'
  | [], acc, acc', fs', ra, e => by cases e; exact ⟨acc, rfl, ra⟩
  | (f, v) :: t, acc, acc', fs', ra, e => by
    simp only [fsP, Option.bind_eq_some_iff] at e
    obtain ⟨y, e1, e2⟩ := e
    have hv : ∃ x, fvV vs v = some x ∧ Rp K cl Hs x y := by
      cases v with
      | c z => cases e1; exact ⟨_, rfl, .str z⟩
      | a i => exact r.get e1
    obtain ⟨x, h1, h2⟩ := hv
    obtain ⟨fs, h3, h4⟩ := fs_rel r (acc := (f, x) :: acc) (.cons h2 ra) e2
    exact ⟨fs, by simp only [fsV, h1, Option.bind_some]; exact h3, h4⟩
theorem fvTE_use {v : Fv} {y x : V} {vs : List V} {H : Hp} {Q : VK} (e : fvV vs v = some y) (q : Q y H) : fvTE v ((x :: vs).map some) H Q := by
  cases v with
  | c z => cases e; exact q
  | a i =>
    have e : vs[i]? = some y := e
    refine ⟨y, ?_, q⟩
    rw [List.map_cons, List.getElem?_cons_succ, List.getElem?_map, e]
    rfl
theorem init_more {K : PySem.W.Frag} {C x dx : Addr} (T : OexC K C) {vs : List V} {D : Ends} (hne : x ≠ dx) : ∀ {sp : Fsp} {acc fs : List (Str × V)} {H : Hp}, (∀ p ∈ sp, PySem.W.findIn K (.ref C) p.1 = some none) → fsV vs sp acc = some fs → acc.length + sp.length ≤ 900 → H x = some (exo x C (some dx)) → H dx = some (exd dx acc) →
    (∀ H', H' x = some (exo x C (some dx)) → H' dx = some (exd dx fs) → (∀ b, b ≠ x → b ≠ dx → H' b = H b) → D.nx ((V.ref x :: vs).map some) H') → tInit K sp D ((V.ref x :: vs).map some) H
  | [], acc, fs, H, _, e, _, h1, h2, q => by cases e; exact q H h1 h2 fun _ _ _ => rfl
  | (f, v) :: r, acc, fs, H, hn, e, hl, h1, h2, q => by
    simp only [fsV, Option.bind_eq_some_iff] at e
    obtain ⟨y, e1, e2⟩ := e
    refine fvTE_use e1 ⟨.ref x, rfl, x, C, rfl, T, hn (f, v) List.mem_cons_self, .inr ⟨dx, acc, h1, h2, by simp at hl; omega, ?_⟩⟩
    refine init_more (D := D) T hne (fun p hp => hn p (List.mem_cons_of_mem _ hp)) e2 (by simp at hl ⊢; omega) (by rw [upd_ne hne]; exact h1) upd_same fun H' a b c => q H' a b fun z z1 z2 => by rw [c z z1 z2, upd_ne z2]
theorem init_all {K : PySem.W.Frag} {C x : Addr} (T : OexC K C) {vs : List V} {D : Ends} {f : Str} {v : Fv} {r : Fsp} {fs : List (Str × V)} {H : Hp} (hn : ∀ p ∈ (f, v) :: r, PySem.W.findIn K (.ref C) p.1 = some none) (e : fsV vs ((f, v) :: r) [] = some fs) (hl : r.length ≤ 800) (h1 : H x = some (exo x C none))
    (q : ∀ dx H', H dx = none → dx ≠ x → H' x = some (exo x C (some dx)) → H' dx = some (exd dx fs) → (∀ b, b ≠ x → b ≠ dx → H' b = H b) → D.nx ((V.ref x :: vs).map some) H') : tInit K ((f, v) :: r) D ((V.ref x :: vs).map some) H := by
  simp only [fsV, Option.bind_eq_some_iff] at e
  obtain ⟨y, e1, e2⟩ := e
  refine fvTE_use e1 ⟨.ref x, rfl, x, C, rfl, T, hn (f, v) List.mem_cons_self, .inl ⟨h1, fun dx n ne => ?_⟩⟩
  refine init_more (D := D) (acc := [(f, y)]) T (Ne.symm ne) (fun p hp => hn p (List.mem_cons_of_mem _ hp)) e2 (by simp; omega) upd_same (by rw [upd_ne ne]; exact upd_same) fun H' a b c => q dx H' n ne a b fun z z1 z2 => by rw [c z z1 z2, upd_ne z1, upd_ne z2]
/-- what such an __init__ promises: the fields of its arguments -/
def spI (C : Addr) (n : Nat) (sp : Fsp) : Sp := fun vs H Q E => ∃ x ws fs, vs = .ref x :: ws ∧ ws.length = n ∧ H x = some (exo x C none) ∧ fsV ws sp [] = some fs ∧
  ∀ dx H', H dx = none → dx ≠ x → H' x = some (exo x C (some dx)) → H' dx = some (exd dx fs) → (∀ b, b ≠ x → b ≠ dx → H' b = H b) → Q .non H'
/-- .. by its text -/
theorem init_ok {P : Program} {w : World} {K : PySem.W.Frag} {mg : Str → Option Value} {base : Heap} {k : Nat} {C fI cc cda : Addr} {qual : Str} {sI : Stmt} {N : List Str} {p0 p1 p2 p3 p4 : Pos} {a0 : Expr} {rest : List Stmt} {ar : Arg} {f : Str} {v : Fv} {r : Fsp} {n : Nat}
    (T : ExC K P C fI cc cda qual sI) (S : ExScope N (defScope sI)) (hbody : defBody sI = .Expr (.Call (.Attribute (.Call (.Name "super" p0) [] [] p1) "__init__" p2) [a0] [] p3) p4 :: rest)
    (hpar : ((defArgs sI).posonlyargs ++ (defArgs sI).args).head? = some ar) (h0 : N[0]? = some ar.arg) (htop : (P.main.scope.names.lookup ("super" : Str)).isSome = false) (hmg : mg "super" = none) (hN : N.length = n + 1)
    (hsw : ∀ env : PySem.Env, swapsWith (.Call (.Attribute (.Call (.Name "super" p0) [] [] p1) "__init__" p2) [a0] [] p3) none p4.line env = pure false)
    (hev : ∀ env : PySem.Env, ∃ pl : Sem Bool, eval (.Call (.Attribute (.Call (.Name "super" p0) [] [] p1) "__init__" p2) [a0] [] p3) env = (do
      let ov ← attributeBase (.Call (.Name "super" p0) [] [] p1) "__init__" env (eval (.Call (.Name "super" p0) [] [] p1) env)
      standAt p2.atName
      let (f, first) ← holding [ov] (getMethod ov "__init__" pl)
      callWith p3 f first (backTo p3 (starEach [a0] env)) []))
    (hst : ∀ env : PySem.Env, starEach [a0] env = [(false, eval a0 env)]) (hn : ∀ p ∈ (f, v) :: r, PySem.W.findIn K (.ref C) p.1 = some none) (hl : r.length ≤ 800)
    (ha : ∀ X : Cx, X.N = N → X.env.scope = defScope sI → ∃ t0, PE X a0 t0 ∧ ∀ (x : V) (ws : List V) (H : Hp), ws.length = n → t0 ((x :: ws).map some) H (fun _ H1 => H1 = H))
    (hr : ∀ X : Cx, X.N = N → X.env.scope = defScope sI → PSs X rest (tInit X.K ((f, v) :: r))) {fd : FuncData} {oc : Value} {od : Option Addr} {osl : Array (Option Value)} (lk : K.lookup fI = some ⟨oc, od, .func fd, osl⟩) : FnOk P w K mg base (L2.CX P w) (k + 1) fI fd N (spI C n ((f, v) :: r)) := by
  refine ex_fn (k := k) T S hbody hpar h0 htop hmg hsw hev hst (fun vs H Q E ⟨x, ws, fs, e, hl, _⟩ => by rw [e, hN, List.length_cons, hl]) (fun A outer s H vs Q E hrm ⟨x, ws, fs, e, hw, eH, ef, q⟩ => ?_) fd oc od osl lk
  subst e
  obtain ⟨t0, g1, g2⟩ := ha (exCx (L2.CX P w) P w K mg base N qual (defScope sI) fI (.ref cda) cc A outer s H E) rfl rfl
  exact ⟨x, ws, t0, _, rfl, eH, g1, hr (exCx (L2.CX P w) P w K mg base N qual (defScope sI) fI (.ref cda) cc A outer s H E) rfl rfl, g2 _ _ _ hw, init_all T.base hn ef hl eH q⟩
section
variable {X : Cx} {cl : Nat → Addr} {W : WX} {He H0 : Hp} {pos p p2 : Pos} {x : Str} {k n : Nat} {C fI : Addr} {fd : FuncData} {ps : List Str} {sp : Fsp}
def mkFs (n : Nat) (sp : Fsp) (us : List PV) : Option (List (Str × PV)) := if us.length = n ∧ n ≤ 1000 then fsP us sp [] else none
def sRaise (c : Nat) (mk : List PV → Option (List (Str × PV))) (bs : List Bool) (fs : List Ex) : Env → Out := fun ρ => onE PV.nols (evs fs) bs ρ fun us ρ' => match mk us with
  | some f => .exc c f ρ'
  | none => .stuck
/-- the heap behind a made error -/
theorem made_eq {H1 H2 : Hp} {a d : Addr} {fs : List (Str × V)} {o : HO} (n : H1 a = none) (h : ∀ b, b ≠ a → b ≠ d → H2 b = upd H1 a o b) (hd : d ≠ a) : upd (del H2 a) d (.xd fs) = upd H1 d (.xd fs) := by
  funext b
  by_cases e : b = d
  · rw [e, upd_same, upd_same]
  · rw [upd_ne e, upd_ne e]
    by_cases e2 : b = a
    · rw [e2, del_same, n]
    · rw [del_ne e2, h b e2 e, upd_ne e2]
theorem er_use {ta' : TA} {σ : St} {H : Hp} {D : Ends} {c : Nat} {bs : List Bool} {fs : List Ex} (hC : C = cl c) (h : ts X.K cl He H0 W (sRaise c (mkFs n sp) bs fs) D σ H) : tMkO C (spI C n sp) [] (ta X.K cl W (evs fs)) σ H (fun cls d H' => W cls d σ H') := by
  obtain ⟨Hs, ρ, S, h⟩ := h
  refine onE_use bears_a S h fun us vs Hs1 H1 ρ1 up S1 r ev _ _ hp => ?_
  unfold mkFs at hp
  split at hp
  · rename_i f hf
    split at hf
    · rename_i hk
      obtain ⟨hl, hk⟩ := hk
      have hlv : vs.length = n := by rw [r.length, hl]
      obtain ⟨fs', e1, e2⟩ := fs_rel r .nil hf
      refine ⟨by omega, fun a na => ⟨a, vs ++ [], fs', by rw [List.append_nil], by rw [List.append_nil]; exact hlv, upd_same, by rw [List.append_nil]; exact e1, fun dx H2 nd ne h1 h2 hoth => ⟨rfl, dx, fs', h1, h2, ?_, ?_⟩⟩⟩
      · rw [upd_ne ne] at nd; exact nd
      · rw [upd_ne ne] at nd
        rw [made_eq na hoth ne, hC]
        have x2 := Ext.new (o := HO.xd fs') S1.sub nd
        exact hp σ _ _ dx fs' x2.fs (S1.up x2) upd_same (e2.mono x2.fs)
    · cases hf
  · exact hp.elim
theorem vs_raise {e : Expr} {es : List Expr} {fs : List Ex} {bs : List Bool} {c : Nat} (hcalm : X.calm = true) (tk : Takes X W) (T : OexC X.K C) (iC : PySem.W.findIn X.K (.ref C) "__init__" = some (some (.ref fI))) (tI : PySem.W.typeIn X.K (.ref fI) = some (.type "function"))
    (F : FnOk X.prog X.w X.K X.mg X.base (L2.CX X.prog X.w) k fI fd ps (spI C n sp)) (hr : Room (k + 1) X.A) (hb : Binds X.K fd ps []) (hm : X.mg x = some (.ref C)) (hC : C = cl c) (ha : PA X (e :: es) (ta X.K cl W (evs fs)))
    (hg : Gl X x := by rfl) (hdb : (x == ("__debug__" : Str)) = false := by decide) (he : starEach (e :: es) X.env = (false, eval e X.env) :: starEach es X.env := by rfl) (hpl : (backTo p2 (starEach es X.env)).any (·.1) = false := by rfl) :
    PV1 X cl W He H0 (.Raise (some (.Call (.Name x p) (e :: es) [] p2)) none pos) (sRaise c (mkFs n sp) bs fs) :=
  psWeak (ps_raise hcalm tk (pmk_oex T iC tI F hr hb .nil (fun _ _ _ _ _ _ _ h => by
    obtain ⟨_, _, _, _, _, _, _, _, _, _, _, _, z⟩ := h
    exact z.elim) hg hm ha hdb he hpl)) fun D σ H h => er_use (ta' := ta X.K cl W (evs fs)) hC h
end
end VL
namespace VL
open PySem PySem.Spec PyProof.Rows L2
/-! ### try: clauses with a name and without -/
abbrev SuT := Addr → Value → Option Addr → TS
/-- a clause: the class, the slot of its name, its suite's reading -/
abbrev ClT := Value × Option Nat × SuT
def endsGone (D : Ends) (i : Nat) : Ends := { nx := fun σ' H' => D.nx (σ'.set i none) H', rt := D.rt, bk := fun σ' H' => D.bk (σ'.set i none) H', ct := fun σ' H' => D.ct (σ'.set i none) H' }
def wMix (K : PySem.W.Frag) (Wout : WX) (D : Ends) : List ClT → WX
  | [] => Wout
  | (c, none, ts) :: r => fun cls d σ H => ∃ b, PySem.W.exmOne K cls c = some b ∧ (b = true → ∀ a, H a = none → ts a cls d D σ H) ∧ (b = false → wMix K Wout D r cls d σ H)
  | (c, some i, ts) :: r => fun cls d σ H => ∃ b, PySem.W.exmOne K cls c = some b ∧ (b = true → ∀ a, H a = none → ts a cls d (endsGone D i) (σ.set i (some (.ref a))) H) ∧ (b = false → wMix K Wout D r cls d σ H)
inductive MixOk (X : Cx) : List ExceptHandler → List ClT → Prop
  | nil : MixOk X [] []
  | un {x : Str} {c : Value} {ts : SuT} {b₀ : Stmt} {suite : List Stmt} {np pos' : Pos} {hds : List ExceptHandler} {l : List ClT} (hc : Names X x c)
      (hsu : ∀ (a : Addr) (oe : Obj) (cls : Value) (d : Option Addr) (pn : List (Addr × Obj)), Zc cls d oe → (∃ vs, oe.data = .fields vs) → PSs (X.suite a ((a, oe) :: pn)) (b₀ :: suite) (ts a cls d)) (r : MixOk X hds l) :
      MixOk X (.ExceptHandler (some (.Name x np)) none (b₀ :: suite) pos' :: hds) ((c, none, ts) :: l)
  | nm {x n : Str} {i : Nat} {c : Value} {ts : SuT} {b₀ : Stmt} {suite : List Stmt} {np pos' : Pos} {hds : List ExceptHandler} {l : List ClT} (hN : X.N.Nodup) (hi : X.N[i]? = some n) (hln : X.env.kindOf n = some .local) (hc : Names X x c)
      (hsu : ∀ (a : Addr) (oe : Obj) (cls : Value) (d : Option Addr) (pn : List (Addr × Obj)), Zc cls d oe → (∃ vs, oe.data = .fields vs) → PSs (X.suite a ((a, oe) :: pn)) (b₀ :: suite) (ts a cls d)) (r : MixOk X hds l) :
      MixOk X (.ExceptHandler (some (.Name x np)) (some n) (b₀ :: suite) pos' :: hds) ((c, some i, ts) :: l)
section
variable {X : Cx} {body : List Stmt} {h₀ : ExceptHandler} {hds : List ExceptHandler} {l : List ClT} {pos : Pos} {tb : WX → TS} {Wout : WX}
theorem ps_try_mix (hs : X.stack = X.env :: X.outer) (hf : X.env.frame = some X.env.locals) (tk : Takes X Wout)
    (hb : ∀ (W : WX) (pn : List (Addr × Obj)) (xe : Value → Shared → Prop), Takes (X.tr pn xe) W → PassesOwn (model X.prog X.w) X.A X.env xe → PSs (X.tr pn xe) body (tb W))
    (hh : MixOk X (h₀ :: hds) l) : PS X (.Try body (h₀ :: hds) [] [] pos) (fun D σ H => tb (wMix X.K Wout D l) D σ H) := by
  refine ⟨fun pins s σ H D I h => ?_⟩
  have ok := I.ok
  have hfr : X.A.frames = some (X.env :: X.outer) := by rw [ok.frames, hs]
  refine wpAny_Try_except ?_
  refine wpAny_mono ((hb (wMix X.K Wout D l) (X.pn ++ pins) (fun e s₁ => wpAny (model X.prog X.w) X.A (noteFrame e X.env) (fun _ s₂ => wpAny (model X.prog X.w) X.A (setFlight e none) (fun _ s₃ =>
    wpAny (model X.prog X.w) X.A (handleBy e X.env (h₀ :: hds)) (SP X pins D) X.xe s₃) X.xe s₂) X.xe s₁) (fun u s' xx => ?_) PassesOwn.looking).run [] s σ H D (I.toTry _) h) (fun f s1 hsp => ?_) (fun e s1 he => he)
  · -- what was raised
    obtain ⟨a, B, sI, pins', σ', H', cls, d, rfl, J', nb, up, sky, na, os, ag, w⟩ := xx
    have J : Inv X pins σ' H' sI := J'.ofTry ok
    have sky' : Sky B (X.env :: X.outer) a (Zc cls d) X.env.locals s'.heap := by rw [← hs]; exact sky
    show wpAny (model X.prog X.w) X.A (noteFrame (.ref a) X.env) _ _ _
    refine Sky.land Zc.steady hfr hf sky' fun h3 fl3 up3 => ?_
    have J3 : Inv X pins σ' H' { s' with heap := h3 } := J.landed nb fl3.1 (up.trans up3) os ag
    obtain ⟨oe3, vs3, he3, hz3, hd3⟩ := fl3.there
    have nfr : a ∉ frs (X.env :: X.outer) := fun hm => by
      obtain ⟨_, o', e', hnf⟩ := fl3.2.2.1.mem hm
      rw [he3] at e'; cases e'
      exact hnf _ hd3
    have nL : a ≠ X.env.locals := fun z => nfr (List.mem_filterMap.mpr ⟨X.env, List.mem_cons_self, by rw [hf, z]⟩)
    have nF : a ∉ X.fs := fun hm => by
      obtain ⟨e, he, q⟩ := List.mem_filterMap.mp hm
      exact nfr (List.mem_filterMap.mpr ⟨e, List.mem_cons_of_mem _ he, q⟩)
    have S3 := J3.suite he3 hd3 na nL nF
    have LT : PySem.W.Looks (model X.prog X.w) h3 (typeOf (.ref a)) cls := fun A Q E s k q => wpAny_typeOf_ref (k _ _ he3) (by rw [hz3.1]; exact q)
    have test : ∀ {x : Str} {np : Pos} {c : Value} {Q : Value → Shared → Prop} {E : Value → Shared → Prop}, Names X x c → Q c { s' with heap := h3 } → wpAny (model X.prog X.w) (X.A.mark (some (.ref a))) (eval (.Name x np) X.env) Q E { s' with heap := h3 } := fun {x np c Q E} hc q => by
      obtain ⟨hg, hdbg, hm | ⟨hm, hv, hnn⟩⟩ := hc
      · exact ld_glob (X := X.suite a ((a, oe3) :: (X.pn ++ pins))) S3 hg hm q hdbg
      · exact ld_blt (X := X.suite a ((a, oe3) :: (X.pn ++ pins))) S3 hg hm hv q hnn hdbg
    have walk : ∀ {hds' : List ExceptHandler} {l' : List ClT}, MixOk X hds' l' → wMix X.K Wout D l' cls d σ' H' →
        wpAny (model X.prog X.w) X.A (handleBy (.ref a) X.env hds') (SP X pins D) X.xe { s' with heap := h3 } := by
      intro hds' l' hk
      induction hk with
      | nil =>
        intro w
        refine wpAny_handleBy_nil ?_
        obtain ⟨k1, k2, k3, oe, vs, T, oT, ts', he, hz, hd, h1, hr⟩ := id fl3
        unfold PySem.passOn
        refine wpAny_bind (wpAny_field he hd h1 ?_)
        rw [if_neg (show ¬ ((Value.ref T == Value.none) = true) from by simp)]
        have fin : wpAny (model X.prog X.w) X.A (setFlight (.ref a) X.env.frame) (fun _ s4 => wpAny (model X.prog X.w) X.A (throw (.ref a) : Sem Flow) (SP X pins D) X.xe s4) X.xe { s' with heap := h3 } := by
          rw [hf]
          refine HandSPX.setFlight_upZ fl3 fun h4 hh4 up4 => wpAny_throw (tk _ _ ?_)
          exact ⟨a, B, sI, pins, σ', H', cls, d, rfl, J, nb, (up.trans up3).trans up4, .inr (.inr (by rw [hs]; exact hh4)), na, os, ag, w⟩
        first
          | exact wpAny_bind (wpAny_pure (wpAny_bind fin))
          | exact wpAny_bind fin
      | @un x c ts b₀ suite np pos' hds2 l2 hc hsu r ih =>
        intro w
        obtain ⟨b, hb1, hyes, hno⟩ := w
        refine wpAny_handleBy_cons (codeAny_handlers_test ?_) (by intro q; cases q)
        refine test hc ((PySem.W.exm_one (M := model X.prog X.w) (J3.kIn) LT hb1).here ?_)
        cases b with
        | true =>
          refine codeAny_handlers_suite (HandSPX.lands_againZ fl3 fun h4 fl4 up4 => ?_)
          have J4 : Inv X pins σ' H' { s' with heap := h4 } := J.landed nb fl4.1 ((up.trans up3).trans up4) os ag
          obtain ⟨oe4, vs4, he4, hz4, hd4⟩ := fl4.there
          refine wpAny_mono ((hsu a oe4 cls d (X.pn ++ pins) hz4 ⟨_, hd4⟩).run [] _ _ H' _ (J4.suite he4 hd4 na nL nF) (hyes rfl a na)) (fun f s6 hsp => ?_) (fun _ _ z => False.elim z)
          cases f with
          | ret u =>
            obtain ⟨v6, σ6, H6, S6, r6, q6⟩ := hsp
            exact ⟨_, _, _, S6.unsuite ok, r6, q6⟩
          | _ =>
            obtain ⟨σ6, H6, S6, q6⟩ := hsp
            exact ⟨_, _, S6.unsuite ok, q6⟩
        | false => exact ih (hno rfl)
      | @nm x n i c ts b₀ suite np pos' hds2 l2 hN hi hln hc hsu r ih =>
        intro w
        obtain ⟨b, hb1, hyes, hno⟩ := w
        refine wpAny_handleBy_cons (codeAny_handlers_test ?_) (by intro q; cases q)
        refine test hc ((PySem.W.exm_one (M := model X.prog X.w) (J3.kIn) LT hb1).here ?_)
        cases b with
        | true =>
          refine codeAny_handlers_suite_as (HandSPX.lands_againZ fl3 fun h4 fl4 up4 => ?_)
          have J4 : Inv X pins σ' H' { s' with heap := h4 } := J.landed nb fl4.1 ((up.trans up3).trans up4) os ag
          obtain ⟨oe4, vs4, he4, hz4, hd4⟩ := fl4.there
          refine store_ok (X := X.suite a ((a, oe4) :: (X.pn ++ pins))) (v := .ref a) (J4.suite he4 hd4 na nL nF) hN hi (.inl hln) rfl (fun s5 S5 => ?_) (.inr hln)
          refine wpAny_mono ((hsu a oe4 cls d (X.pn ++ pins) hz4 ⟨_, hd4⟩).run [] s5 _ H' _ S5 (hyes rfl a na)) (fun f s6 hsp => ?_) (fun _ _ z => False.elim z)
          have gone : ∀ {σ6 : St} {H6 : Hp} {Q : Shared → Prop}, Inv (X.suite a ((a, oe4) :: (X.pn ++ pins))) [] σ6 H6 s6 → (∀ s7, Inv X pins (σ6.set i none) H6 s7 → Q s7) →
              wpAny (model X.prog X.w) X.A (do bindName X.env n .none; unbindBehindTheSuite X.env n pos') (fun _ s7 => Q s7) X.xe s6 := fun {σ6 H6 Q} S6 hq => gone_ok (S6.unsuite ok) hN hi hln hq
          cases f with
          | ret u =>
            obtain ⟨v6, σ6, H6, S6, r6, q6⟩ := hsp
            exact gone S6 fun s7 J7 => ⟨_, _, _, J7, r6, q6⟩
          | _ =>
            obtain ⟨σ6, H6, S6, q6⟩ := hsp
            exact gone S6 fun s7 J7 => ⟨_, _, J7, q6⟩
        | false => exact ih (hno rfl)
    exact walk hh w
  · cases f with
    | next =>
      obtain ⟨σ', H', J', q⟩ := hsp
      exact wpAny_execs_nil ⟨σ', H', J'.ofTry ok, q⟩
    | ret u =>
      obtain ⟨v, σ', H', J', r, q⟩ := hsp
      exact ⟨v, σ', H', J'.ofTry ok, r, q⟩
    | _ =>
      obtain ⟨σ', H', J', q⟩ := hsp
      exact ⟨σ', H', J'.ofTry ok, q⟩
end

/-! ### .. as values -/
inductive Hd where
  | un (mt : Nat → Option Bool) (s : Env → Out)
  | nm (mt : Nat → Option Bool) (i : Nat) (g : Nat → List (Str × PV) → R PV)
def tryH (c : Nat) (fs : List (Str × PV)) (ρ : Env) : List Hd → Out
  | [] => .exc c fs ρ
  | .un mt s :: r => match mt c with
    | some true => match s ρ with
      | .exc _ _ _ => .stuck
      | o => o
    | some false => tryH c fs ρ r
    | none => .stuck
  | .nm mt i g :: r => match mt c with
    | some true => if i < ρ.length then match g c fs with
      | .ok v => .ret v
      | _ => .stuck
      else .stuck
    | some false => tryH c fs ρ r
    | none => .stuck
def sTry (s : Env → Out) (hs : List Hd) : Env → Out := fun ρ => match s ρ with
  | .exc c fs ρ' => tryH c fs ρ' hs
  | o => o

/-! the suites that name the error: fields, written constants, tuples -/
section
variable (K : PySem.W.Frag) (cl : Nat → Addr) (i : Nat) (a : Addr) (cls : Value) (d : Option Addr)
def gx {α β : Type} (rel : Hp → β → α → Prop) (f : Nat → List (Str × PV) → R α) : St → Hp → (β → Hp → Prop) → Prop := fun σ H Q =>
  ∃ Hs c dd fvs fs, σ[i]? = some (some (.ref a)) ∧ cls = .ref (cl c) ∧ d = some dd ∧ Sub Hs H ∧ Hs dd = some (.xd fvs) ∧ RpF K cl Hs fvs fs ∧
    match f c fs with
    | .ok v => ∀ x Hs' H', Ext Hs H Hs' H' → rel Hs' x v → Q x H'
    | _ => False
end
abbrev Xx (α : Type) := Nat → List (Str × PV) → R α
def xC (v : PV) : Xx PV := fun _ _ => .ok v
def lkF (f : Str) : List (Str × PV) → Option PV
  | [] => none
  | (k, v) :: r => if f = k then some v else lkF f r
def xF (c0 : Nat) (f : Str) : Xx PV := fun c fs => if c = c0 then opt (lkF f fs) else .stuck
def xNil : Xx (List PV) := fun _ _ => .ok []
def xCons (f : Xx PV) (r : Xx (List PV)) : Xx (List PV) := fun c fs => (f c fs).bind fun x => (r c fs).bind fun xs => .ok (x :: xs)
def xTup (r : Xx (List PV)) : Xx PV := fun c fs => (r c fs).bind gTupV
theorem lkF_ok {K : PySem.W.Frag} {cl : Nat → Addr} {Hs : Hp} {f : Str} {v : PV} : ∀ {fvs : List (Str × V)} {fs : List (Str × PV)}, RpF K cl Hs fvs fs → lkF f fs = some v → ∃ x, fvs.lookup f = some x ∧ Rp K cl Hs x v
  | _, _, .nil, h => by cases h
  | _, _, .cons (k := k) (v := y) (vs := vs) (x := z) (xs := xs) r t, h => by
    replace h : (if f = k then some z else lkF f xs) = some v := h
    by_cases e : f = k
    · rw [if_pos e] at h
      cases h
      exact ⟨y, by subst e; simp [List.lookup], r⟩
    · rw [if_neg e] at h
      obtain ⟨x, h1, h2⟩ := lkF_ok t h
      have e2 : (f == k) = false := by simpa using e
      exact ⟨x, by simp only [List.lookup, e2]; exact h1, h2⟩
section
variable {X : Cx} {cl : Nat → Addr} {i : Nat} {a : Addr} {cls : Value} {d : Option Addr} {oe : Obj} {pn : List (Addr × Obj)} {pos : Pos}
abbrev PXv (X : Cx) (cl : Nat → Addr) (i : Nat) (a : Addr) (cls : Value) (d : Option Addr) (oe : Obj) (pn : List (Addr × Obj)) (e : Expr) (f : Xx PV) : Prop := PE (X.suite a ((a, oe) :: pn)) e (gx X.K cl i a cls d (Rp X.K cl) f)
abbrev PXa (X : Cx) (cl : Nat → Addr) (i : Nat) (a : Addr) (cls : Value) (d : Option Addr) (oe : Obj) (pn : List (Addr × Obj)) (e : List Expr) (f : Xx (List PV)) : Prop := PA (X.suite a ((a, oe) :: pn)) e (gx X.K cl i a cls d (RpA X.K cl) f)
theorem xx_c {v : V} {u : PV} {e : Expr} (h : PE (X.suite a ((a, oe) :: pn)) e (tC v)) (r : ∀ H, Rp X.K cl H v u) : PXv X cl i a cls d oe pn e (xC u) :=
  peWeak h fun σ H Q ⟨Hs, c, dd, fvs, fs, _, _, _, s, _, _, q⟩ => q v Hs H (Ext.refl s) (r _)
theorem xx_int {n j} : PXv X cl i a cls d oe pn (.Constant (.int n) j pos) (xC (.int n)) := xx_c pe_int fun _ => .int n
theorem xx_bl {n j} : PXv X cl i a cls d oe pn (.Constant (.bool n) j pos) (xC (.bl n)) := xx_c pe_bl fun _ => .bl n
theorem xx_non {j} : PXv X cl i a cls d oe pn (.Constant .none j pos) (xC .non) := xx_c pe_non fun _ => .non
theorem xx_str {n j} : PXv X cl i a cls d oe pn (.Constant (.str n) j pos) (xC (.str n)) := xx_c pe_str fun _ => .str n
theorem xx_fld {x n : Str} {px : Pos} {c0 : Nat} {C : Addr} (T : XfC X.K C) (hno : PySem.W.findIn X.K (.ref C) n = some none) (hC : C = cl c0) (hz : Zc cls d oe) (hf : ∃ vs, oe.data = .fields vs) (hN : X.N[i]? = some x := by rfl) (hv : Vis X.env.scope x := by first | exact Or.inl rfl | exact Or.inr (Or.inl rfl) | exact Or.inr (Or.inr rfl)) (hd : (x == ("__debug__" : Str)) = false := by decide)
    (hcd : (x == ("__classdict__" : Str)) = false := by decide) (hb : attributeBase (.Name x px) n X.env (eval (.Name x px) X.env) = eval (.Name x px) X.env := by rfl) : PXv X cl i a cls d oe pn (.Attribute (.Name x px) n pos) (xF c0 n) :=
  peWeak (pe_xf T hno hz hf (pe_var (X := X.suite a ((a, oe) :: pn)) (i := i) hN hv hd hcd) hb) fun σ H Q ⟨Hs, c, dd, fvs, fs, h1, h2, h3, s, h4, h5, q⟩ => by
    unfold xF at q
    split at q
    · rename_i v hq
      split at hq
      · rename_i ec
        subst ec
        cases e : lkF n fs with
        | none => rw [e] at hq; cases hq
        | some w =>
          rw [e] at hq
          cases hq
          obtain ⟨y, g1, g2⟩ := lkF_ok h5 e
          exact ⟨.ref a, h1, rfl, by rw [hC]; exact h2, dd, fvs, y, h3, s _ _ h4, g1, q y Hs H (Ext.refl s) g2⟩
      · cases hq
    · exact q.elim
theorem gx_up {α β : Type} {K : PySem.W.Frag} {rel : Hp → β → α → Prop} {f : Xx α} {σ : St} {H : Hp} {Q : β → Hp → Prop} : gx K cl i a cls d rel f σ H Q ↔ gx K cl i a cls d rel f σ H Q := Iff.rfl
theorem xa_nil : PXa X cl i a cls d oe pn [] xNil := paWeak pa_nil fun σ H Q ⟨Hs, c, dd, fvs, fs, _, _, _, s, _, _, q⟩ => q [] Hs H (Ext.refl s) .nil
theorem xa_cons {e : Expr} {es : List Expr} {f : Xx PV} {r : Xx (List PV)} (ha : PXv X cl i a cls d oe pn e f) (hr : PXa X cl i a cls d oe pn es r) (hs : starEach (e :: es) X.env = (false, eval e X.env) :: starEach es X.env := by rfl) : PXa X cl i a cls d oe pn (e :: es) (xCons f r) :=
  paWeak (pa_cons ha hr hs) fun σ H Q ⟨Hs, c, dd, fvs, fs, h1, h2, h3, s, h4, h5, q⟩ => by
    unfold xCons at q
    refine ⟨Hs, c, dd, fvs, fs, h1, h2, h3, s, h4, h5, ?_⟩
    cases e1 : f c fs with
    | ok v =>
      rw [e1] at q
      intro x Hs1 H1 s1 rx
      refine ⟨Hs1, c, dd, fvs, fs, h1, h2, h3, s1.sub, s1.fs _ _ h4, h5.mono s1.fs, ?_⟩
      cases e2 : r c fs with
      | ok vs =>
        rw [e2] at q
        exact fun xs Hs2 H2 s2 rxs => q (x :: xs) Hs2 H2 (s1.trans s2) (.cons (rx.mono s2.fs) rxs)
      | exc c' fs' => rw [e2] at q; exact q.elim
      | stuck => rw [e2] at q; exact q.elim
    | exc c' fs' => rw [e1] at q; exact q.elim
    | stuck => rw [e1] at q; exact q.elim
theorem xx_tup {es : List Expr} {x1} {r : Xx (List PV)} (h : PXa X cl i a cls d oe pn es r) : PXv X cl i a cls d oe pn (.Tuple es x1 pos) (xTup r) :=
  peWeak (pe_tup h) fun σ H Q ⟨Hs, c, dd, fvs, fs, h1, h2, h3, s, h4, h5, q⟩ => by
    unfold xTup at q
    refine ⟨Hs, c, dd, fvs, fs, h1, h2, h3, s, h4, h5, ?_⟩
    cases e1 : r c fs with
    | ok vs =>
      rw [e1, bind_ok] at q
      intro x Hs1 H1 s1 rx
      unfold gTupV at q
      by_cases hl : vs.length ≤ sizeLine
      · rw [if_pos hl] at q
        refine ⟨by rw [rx.length]; exact hl, fun p n => ?_⟩
        exact q (.ref p) (upd Hs1 p (.tup x)) _ (s1.trans (Ext.new s1.sub n)) (.tup (.of upd_same) (rx.mono (Sub.new (s1.sub.none n))))
      · rw [if_neg hl] at q; exact q.elim
    | exc c' fs' => rw [e1] at q; exact q.elim
    | stuck => rw [e1] at q; exact q.elim
/-- the suite's reading -/
def tSx (K : PySem.W.Frag) (cl : Nat → Addr) (i : Nat) (g : Xx PV) : SuT := fun a cls d D σ H => gx K cl i a cls d (Rp K cl) g σ H fun x H' => D.rt x H'
theorem sx_ret {e : Expr} {g : Xx PV} (h : PXv X cl i a cls d oe pn e g) : PSs (X.suite a ((a, oe) :: pn)) [.Return (some e) pos] (tSx X.K cl i g a cls d) := pss_one (ps_ret h)
end
/-- what the clauses are -/
inductive HdsV (X : Cx) (cl : Nat → Addr) (He H0 : Hp) : List ExceptHandler → List Hd → List ClT → Prop
  | nil : HdsV X cl He H0 [] [] []
  | un {x : Str} {c : Value} {mt : Nat → Option Bool} {s : Env → Out} {b₀ : Stmt} {suite : List Stmt} {np pos' : Pos} {hds : List ExceptHandler} {l : List Hd} {l' : List ClT} (hc : Names X x c) (hm : ∀ k b, mt k = some b → PySem.W.exmOne X.K (.ref (cl k)) c = some b)
      (hsu : ∀ (a : Addr) (oe : Obj) (pn : List (Addr × Obj)), (∃ vs, oe.data = .fields vs) → PVs (X.suite a ((a, oe) :: pn)) cl W0 He H0 (b₀ :: suite) s) (r : HdsV X cl He H0 hds l l') :
      HdsV X cl He H0 (.ExceptHandler (some (.Name x np)) none (b₀ :: suite) pos' :: hds) (.un mt s :: l) ((c, none, fun _ _ _ => ts X.K cl He H0 W0 s) :: l')
  | nm {x n : Str} {i : Nat} {c : Value} {mt : Nat → Option Bool} {g : Xx PV} {b₀ : Stmt} {suite : List Stmt} {np pos' : Pos} {hds : List ExceptHandler} {l : List Hd} {l' : List ClT} (hN : X.N.Nodup) (hi : X.N[i]? = some n) (hln : X.env.kindOf n = some .local) (hc : Names X x c) (hm : ∀ k b, mt k = some b → PySem.W.exmOne X.K (.ref (cl k)) c = some b)
      (hsu : ∀ (a : Addr) (oe : Obj) (cls : Value) (d : Option Addr) (pn : List (Addr × Obj)), Zc cls d oe → (∃ vs, oe.data = .fields vs) → PSs (X.suite a ((a, oe) :: pn)) (b₀ :: suite) (tSx X.K cl i g a cls d)) (r : HdsV X cl He H0 hds l l') :
      HdsV X cl He H0 (.ExceptHandler (some (.Name x np)) (some n) (b₀ :: suite) pos' :: hds) (.nm mt i g :: l) ((c, some i, tSx X.K cl i g) :: l')
section
variable {X : Cx} {cl : Nat → Addr} {He H0 : Hp}
theorem HdsV.mix {hds : List ExceptHandler} {l : List Hd} {l' : List ClT} (h : HdsV X cl He H0 hds l l') : MixOk X hds l' := by
  induction h with
  | nil => exact .nil
  | un hc hm hsu r ih => exact .un hc (fun a oe cls d pn _ hf => hsu a oe pn hf) ih
  | nm hN hi hln hc hm hsu r ih => exact .nm hN hi hln hc hsu ih
theorem HdsV.use {W : WX} {D : Ends} {hds : List ExceptHandler} {l : List Hd} {l' : List ClT} (h : HdsV X cl He H0 hds l l') {c : Nat} {fs : List (Str × PV)} {ρ : Env} {Hs : Hp} (p : Post X.K cl He H0 W Hs D (tryH c fs ρ l)) {σ : St} {Hs' H' : Hp} {d : Addr} {fvs : List (Str × V)} (up : Sub Hs Hs') (S : SEnv X.K cl He H0 Hs' H' σ ρ)
    (e : Hs' d = some (.xd fvs)) (r : RpF X.K cl Hs' fvs fs) : wMix X.K W D l' (.ref (cl c)) (some d) σ H' := by
  induction h with
  | nil => exact p σ Hs' H' d fvs up S e r
  | @un x cv mt s b₀ suite np pos' hds2 l2 l3 hc hm hsu r2 ih =>
    unfold tryH at p
    cases em : mt c with
    | none => rw [em] at p; exact p.elim
    | some b =>
      rw [em] at p
      refine ⟨b, hm _ _ em, fun hb a na => ?_, fun hb => ?_⟩
      · subst hb
        refine ⟨Hs', ρ, S, ?_⟩
        cases es : s ρ with
        | exc c' fs' ρ' => simp only [es] at p; exact p.elim
        | stuck => simp only [es] at p; exact p.elim
        | next ρ' => simp only [es] at p; exact Post.up (W := W0) (o := .next ρ') p up
        | brk ρ' => simp only [es] at p; exact Post.up (W := W0) (o := .brk ρ') p up
        | cont ρ' => simp only [es] at p; exact Post.up (W := W0) (o := .cont ρ') p up
        | ret v => simp only [es] at p; exact p
      · subst hb
        exact ih p
  | @nm x n i cv mt g b₀ suite np pos' hds2 l2 l3 hN hi hln hc hm hsu r2 ih =>
    unfold tryH at p
    cases em : mt c with
    | none => rw [em] at p; exact p.elim
    | some b =>
      rw [em] at p
      refine ⟨b, hm _ _ em, fun hb a na => ?_, fun hb => ?_⟩
      · subst hb
        simp only at p
        split at p
        · rename_i hl
          rw [← S.len] at hl
          refine ⟨Hs', c, d, fvs, fs, by rw [List.getElem?_set_self hl], rfl, rfl, S.sub, e, r, ?_⟩
          cases eg : g c fs with
          | ok v =>
            simp only [eg] at p
            exact fun x Hs1 H1 s1 rx => p x Hs1 H1 (S.ext.trans s1) rx
          | exc c' fs' => simp only [eg] at p; exact p.elim
          | stuck => simp only [eg] at p; exact p.elim
        · exact p.elim
      · subst hb
        exact ih p
/-- the rule -/
theorem vs_try {W : WX} {body : List Stmt} {h₀ : ExceptHandler} {hds : List ExceptHandler} {l : List Hd} {l' : List ClT} {pos : Pos} {s : Env → Out} (hs : X.stack = X.env :: X.outer) (hf : X.env.frame = some X.env.locals) (tk : Takes X W)
    (hb : ∀ (W : WX) (pn : List (Addr × Obj)) (xe : Value → Shared → Prop), Takes (X.tr pn xe) W → PassesOwn (model X.prog X.w) X.A X.env xe → PVs (X.tr pn xe) cl W He H0 body s)
    (hh : HdsV X cl He H0 (h₀ :: hds) l l') : PV1 X cl W He H0 (.Try body (h₀ :: hds) [] [] pos) (sTry s l) :=
  psWeak (ps_try_mix (tb := fun W => ts X.K cl He H0 W s) hs hf tk hb hh.mix) fun D σ H ⟨Hs, ρ, S, p⟩ => by
    refine ⟨Hs, ρ, S, ?_⟩
    unfold sTry at p
    cases es : s ρ with
    | exc c fs ρ' =>
      simp only [es] at p
      exact fun σ' Hs' H' d fvs up S' e r => hh.use p up S' e r
    | stuck => simp only [es] at p; exact p.elim
    | next ρ' => simp only [es] at p; exact p
    | brk ρ' => simp only [es] at p; exact p
    | cont ρ' => simp only [es] at p; exact p
    | ret v => simp only [es] at p; exact p
end
/-! ### raise C() -/
section
variable {X : Cx} {cl : Nat → Addr} {W : WX} {He H0 : Hp} {pos p p2 : Pos} {x : Str} {k : Nat} {C fI : Addr} {fd : FuncData} {ps : List Str} {sp : Fsp}
theorem pmk_none {spx : Sp} (T : OexC X.K C) (iC : PySem.W.findIn X.K (.ref C) "__init__" = some (some (.ref fI))) (tI : PySem.W.typeIn X.K (.ref fI) = some (.type "function"))
    (F : FnOk X.prog X.w X.K X.mg X.base (L2.CX X.prog X.w) k fI fd ps spx) (hr : Room (k + 1) X.A) (hb : Binds X.K fd ps []) (hx : Passes (L2.CX X.prog X.w) X (fun _ _ _ => False)) (hg : Gl X x) (hm : X.mg x = some (.ref C))
    (hdb : (x == ("__debug__" : Str)) = false := by decide) : PMk X (.Call (.Name x p) [] [] pos) (tMkO C spx [] tNil) := by
  intro pins s σ H Q I h
  obtain ⟨nm, q, N, bs, bm, sn, sub, ab, col, dd, k0, k1, k2, k3, k5, hC, hbm⟩ := T.cls
  refine wpAny_Call_Name_kw (ld_glob I hg hm (PySem.W.callWith_K0 I.kIn T.kC ?_) hdb)
  obtain ⟨hz, q1⟩ := h
  obtain ⟨hp, g, dr, tk, os⟩ := s
  have hsz : hp.objs.size ≤ hp.objs.size + 1 := Nat.le_succ _
  have hq := q1 (hp.objs.size + 1) (I.hok.fresh hsz)
  have keep : ∀ b o, hp.get? b = some o → ((hp.push (PySem.W.kdv_tup [])).push (PySem.HandSPX.excO C hp.objs.size)).get? b = some o := fun b o e => Heap.get?_push_of_some _ (Heap.get?_push_of_some _ e)
  have hget : ((hp.push (PySem.W.kdv_tup [])).push (PySem.HandSPX.excO C hp.objs.size)).get? (hp.objs.size + 1) = some (PySem.HandSPX.excO C hp.objs.size) := by heap_get
  have I2 : Inv X pins σ (upd H (hp.objs.size + 1) (exo (hp.objs.size + 1) C none)) ⟨(hp.push (PySem.W.kdv_tup [])).push (PySem.HandSPX.excO C hp.objs.size), g, dr, tk, os⟩ :=
    I.laid (t' := tk) (a := hp.objs.size + 1) (o := exo (hp.objs.size + 1) C none) (h' := (hp.push (PySem.W.kdv_tup [])).push (PySem.HandSPX.excO C hp.objs.size)) keep hsz (exo_ok hget)
  have hl : ([Value.ref (hp.objs.size + 1)] : List Value).length = ps.length := (F.len _ _ _ _ hq)
  refine wpAny_call (PySem.HandSPX.call_own PySem.F.excBase_ValueError (fun Y => PySem.HandSPX.refsVE_contains Y bm hbm) (I.kIn _ _ hC) (PySem.W.looks_findIn I.kIn iC) (fun self => PySem.W.bind_fn I.kIn self tI) (by rw [sizeLine_eq]; exact Nat.zero_le _)
    (codeAny_mono (F.run _ X.stack _ _ ⟨[Value.ref (hp.objs.size + 1)], []⟩ [Value.ref (hp.objs.size + 1)] [V.ref (hp.objs.size + 1)] _ (fun _ _ _ => False) (hr.make C [] []) (I2.env0.make C [] []) (by have := hb _ [Value.ref (hp.objs.size + 1)] I2.kIn hl; exact this) (.cons rfl .nil) hq) fun r s' hq' => ?_))
  cases r with
  | error er => exact hx pins σ _ _ er s' I2 hq'
  | ok fl =>
    cases fl with
    | ret u =>
      obtain ⟨v, H2, os2, bare2, un2, hok2, rv, ev, d, fs, ea, ed, hd1, q2⟩ := hq'
      subst ev
      obtain ⟨h2, g2, d2, t2, os'⟩ := s'
      exact ⟨rv, mk_end (raises_own T.exC T.tyC) I hsz keep un2 hok2 os2 bare2 ea ed hd1 q2⟩
    | next => exact False.elim hq'
    | brk => exact False.elim hq'
    | cont => exact False.elim hq'
theorem vs_raise0 {bs : List Bool} {c : Nat} (hcalm : X.calm = true) (tk : Takes X W) (T : OexC X.K C) (iC : PySem.W.findIn X.K (.ref C) "__init__" = some (some (.ref fI))) (tI : PySem.W.typeIn X.K (.ref fI) = some (.type "function"))
    (F : FnOk X.prog X.w X.K X.mg X.base (L2.CX X.prog X.w) k fI fd ps (spI C 0 sp)) (hr : Room (k + 1) X.A) (hb : Binds X.K fd ps []) (hm : X.mg x = some (.ref C)) (hC : C = cl c)
    (hg : Gl X x := by rfl) (hdb : (x == ("__debug__" : Str)) = false := by decide) :
    PV1 X cl W He H0 (.Raise (some (.Call (.Name x p) [] [] p2)) none pos) (sRaise c (mkFs 0 sp) bs []) :=
  psWeak (ps_raise hcalm tk (pmk_none T iC tI F hr hb (fun _ _ _ _ _ _ _ h => by
    obtain ⟨_, _, _, _, _, _, _, _, _, _, _, _, z⟩ := h
    exact z.elim) hg hm hdb)) fun D σ H h => by
      have q := er_use (X := X) (W := W) (He := He) (H0 := H0) (n := 0) (ta' := tNil) (D := D) hC h
      obtain ⟨Hs, ρ, E, q⟩ := q
      exact q.here E.sub .nil
end
end VL
namespace VL
open PySem PySem.Spec PyProof.Rows L2
/-! ### what a law's text gives, by names -/
section
variable (P : Program) (w : World) (K : PySem.W.Frag) (mg : Str → Option Value) (base : Heap) (cl : Nat → Addr)
/-- a def by its name -/
structure DefAt (k : Nat) (x : Str) (n : Nat) (g : List PV → R PV) : Prop where
  ex : ∃ (f : Addr) (fd : FuncData) (ps : List Str), FnOk P w K mg base (L2.CX P w) k f fd ps (spF K cl n g) ∧ mg x = some (.ref f) ∧ PySem.W.keepIn K (.ref f) = true ∧ Binds K fd ps []
/-- an own error by its name: its number, its __init__'s arguments and fields -/
structure ExcAt (k : Nat) (x : Str) (c n : Nat) (sp : Fsp) : Prop where
  ex : ∃ (C fI : Addr) (fd : FuncData) (ps : List Str), OexC K C ∧ PySem.W.findIn K (.ref C) "__init__" = some (some (.ref fI)) ∧ PySem.W.typeIn K (.ref fI) = some (.type "function") ∧ FnOk P w K mg base (L2.CX P w) k fI fd ps (spI C n sp) ∧ Binds K fd ps [] ∧ mg x = some (.ref C) ∧ C = cl c
/-- a class that an except clause names -/
structure ExmAt (x : Str) (mt : Nat → Option Bool) : Prop where
  ex : ∃ C : Addr, mg x = some (.ref C) ∧ ∀ k b, mt k = some b → PySem.W.exmOne K (.ref (cl k)) (.ref C) = some b
/-- a field of a caught error -/
structure FldAt (c : Nat) (f : Str) : Prop where
  xf : XfC K (cl c)
  no : PySem.W.findIn K (.ref (cl c)) f = some none
end
section
variable {X : Cx} {cl : Nat → Addr} {W : WX} {He H0 : Hp} {pos p p2 : Pos} {x : Str} {k n : Nat} {g : List PV → R PV}
theorem vc {e : Expr} {es : List Expr} {fs : List Ex} (D : DefAt X.prog X.w X.K X.mg X.base cl k x n g) (hr : Room k X.A) (tk : Takes X W) (ha : PA X (e :: es) (ta X.K cl W (evs fs)))
    (hg : Gl X x := by rfl) (hdb : (x == ("__debug__" : Str)) = false := by decide) (he : starEach (e :: es) X.env = (false, eval e X.env) :: starEach es X.env := by rfl) (hpl : (backTo pos (starEach es X.env)).any (·.1) = false := by rfl) :
    PE X (.Call (.Name x p) (e :: es) [] pos) (tv X.K cl W (eArgs (gN n g) fs)) := by
  obtain ⟨f, fd, ps, F, hm, hk, hb⟩ := D.ex
  exact ve_call F hr hm hk hb tk ha hg hdb he hpl
theorem vc0 (D : DefAt X.prog X.w X.K X.mg X.base cl k x n g) (hr : Room k X.A) (tk : Takes X W) (hg : Gl X x := by rfl) (hdb : (x == ("__debug__" : Str)) = false := by decide) :
    PE X (.Call (.Name x p) [] [] pos) (tv X.K cl W (eArgs (gN n g) [])) := by
  obtain ⟨f, fd, ps, F, hm, hk, hb⟩ := D.ex
  exact ve_call0 F hr hm hk hb tk hg hdb
theorem vr {e : Expr} {es : List Expr} {fs : List Ex} {bs : List Bool} {c : Nat} {sp : Fsp} (D : ExcAt X.prog X.w X.K X.mg X.base cl k x c n sp) (hr : Room (k + 1) X.A) (hcalm : X.calm = true) (tk : Takes X W) (ha : PA X (e :: es) (ta X.K cl W (evs fs)))
    (hg : Gl X x := by rfl) (hdb : (x == ("__debug__" : Str)) = false := by decide) (he : starEach (e :: es) X.env = (false, eval e X.env) :: starEach es X.env := by rfl) (hpl : (backTo p2 (starEach es X.env)).any (·.1) = false := by rfl) :
    PV1 X cl W He H0 (.Raise (some (.Call (.Name x p) (e :: es) [] p2)) none pos) (sRaise c (mkFs n sp) bs fs) := by
  obtain ⟨C, fI, fd, ps, T, iC, tI, F, hb, hm, hC⟩ := D.ex
  exact vs_raise hcalm tk T iC tI F hr hb hm hC ha hg hdb he hpl
theorem vr0 {bs : List Bool} {c : Nat} {sp : Fsp} (D : ExcAt X.prog X.w X.K X.mg X.base cl k x c 0 sp) (hr : Room (k + 1) X.A) (hcalm : X.calm = true) (tk : Takes X W)
    (hg : Gl X x := by rfl) (hdb : (x == ("__debug__" : Str)) = false := by decide) : PV1 X cl W He H0 (.Raise (some (.Call (.Name x p) [] [] p2)) none pos) (sRaise c (mkFs 0 sp) bs []) := by
  obtain ⟨C, fI, fd, ps, T, iC, tI, F, hb, hm, hC⟩ := D.ex
  exact vs_raise0 hcalm tk T iC tI F hr hb hm hC hg hdb
/-- the clauses of a try, some reading of them -/
def Cls (X : Cx) (cl : Nat → Addr) (He H0 : Hp) (hds : List ExceptHandler) (l : List Hd) : Prop := ∃ l', HdsV X cl He H0 hds l l'
theorem hd_nil : Cls X cl He H0 [] [] := ⟨[], .nil⟩
theorem hd_un {mt : Nat → Option Bool} {s : Env → Out} {b₀ : Stmt} {suite : List Stmt} {np pos' : Pos} {hds : List ExceptHandler} {l : List Hd} (D : ExmAt X.K X.mg cl x mt)
    (hsu : ∀ (a : Addr) (oe : Obj) (pn : List (Addr × Obj)), (∃ vs, oe.data = .fields vs) → PVs (X.suite a ((a, oe) :: pn)) cl W0 He H0 (b₀ :: suite) s) (r : Cls X cl He H0 hds l) (hg : Gl X x := by rfl) (hdb : (x == ("__debug__" : Str)) = false := by decide) :
    Cls X cl He H0 (.ExceptHandler (some (.Name x np)) none (b₀ :: suite) pos' :: hds) (.un mt s :: l) := by
  obtain ⟨C, hm, hx⟩ := D.ex
  obtain ⟨l', r⟩ := r
  exact ⟨_, .un ⟨hg, hdb, .inl hm⟩ hx hsu r⟩
theorem hd_nm {y : Str} {i : Nat} {mt : Nat → Option Bool} {g : Xx PV} {b₀ : Stmt} {suite : List Stmt} {np pos' : Pos} {hds : List ExceptHandler} {l : List Hd} (D : ExmAt X.K X.mg cl x mt) (hN : X.N.Nodup)
    (hsu : ∀ (a : Addr) (oe : Obj) (cls : Value) (d : Option Addr) (pn : List (Addr × Obj)), Zc cls d oe → (∃ vs, oe.data = .fields vs) → PSs (X.suite a ((a, oe) :: pn)) (b₀ :: suite) (tSx X.K cl i g a cls d)) (r : Cls X cl He H0 hds l) (hi : X.N[i]? = some y := by rfl) (hln : X.env.kindOf y = some .local := by rfl) (hg : Gl X x := by rfl) (hdb : (x == ("__debug__" : Str)) = false := by decide) :
    Cls X cl He H0 (.ExceptHandler (some (.Name x np)) (some y) (b₀ :: suite) pos' :: hds) (.nm mt i g :: l) := by
  obtain ⟨C, hm, hx⟩ := D.ex
  obtain ⟨l', r⟩ := r
  exact ⟨_, .nm hN hi hln ⟨hg, hdb, .inl hm⟩ hx hsu r⟩
theorem vs_tr {body : List Stmt} {h₀ : ExceptHandler} {hds : List ExceptHandler} {l : List Hd} {s : Env → Out} (tk : Takes X W)
    (hb : ∀ (W : WX) (pn : List (Addr × Obj)) (xe : Value → Shared → Prop), Takes (X.tr pn xe) W → PassesOwn (model X.prog X.w) X.A X.env xe → PVs (X.tr pn xe) cl W He H0 body s)
    (hh : Cls X cl He H0 (h₀ :: hds) l) (hs : X.stack = X.env :: X.outer := by rfl) (hf : X.env.frame = some X.env.locals := by rfl) : PV1 X cl W He H0 (.Try body (h₀ :: hds) [] [] pos) (sTry s l) := by
  obtain ⟨l', hh⟩ := hh
  exact vs_try hs hf tk hb hh
theorem xx_f {px : Pos} {i c0 : Nat} {a : Addr} {cls : Value} {d : Option Addr} {oe : Obj} {pn : List (Addr × Obj)} {f : Str} (D : FldAt X.K cl c0 f) (hz : Zc cls d oe) (hf : ∃ vs, oe.data = .fields vs) (hN : X.N[i]? = some x := by rfl) (hv : Vis X.env.scope x := by first | exact Or.inl rfl | exact Or.inr (Or.inl rfl) | exact Or.inr (Or.inr rfl)) (hd : (x == ("__debug__" : Str)) = false := by decide)
    (hcd : (x == ("__classdict__" : Str)) = false := by decide) (hb : attributeBase (.Name x px) f X.env (eval (.Name x px) X.env) = eval (.Name x px) X.env := by rfl) : PXv X cl i a cls d oe pn (.Attribute (.Name x px) f pos) (xF c0 f) :=
  xx_fld D.xf D.no rfl hz hf hN hv hd hcd hb
end
theorem room64 {A : Around} {k : Nat} (hr : Room k A) : A.units + 64 < cLine := by have := hr.un; omega
theorem room65 {A : Around} {k : Nat} (hr : Room k A) : A.units + 65 < cLine := by have := hr.un; omega
theorem room0 {A : Around} {k : Nat} (hr : Room k A) : A.units < cLine := by have := hr.un; omega
theorem room2 {A : Around} {d : Nat} (hr : Room (d + 2) A) : Room 2 A := hr.mono (by omega)
/-! ### a comprehension's block, as a test -/
def kindB (a b : Option NameKind) : Bool := match a, b with
  | some .local, some .local => true
  | some .cell, some .cell => true
  | some .free, some .free => true
  | some .globalImplicit, some .globalImplicit => true
  | some .globalExplicit, some .globalExplicit => true
  | _, _ => false
theorem kindB_ok {a b : Option NameKind} (h : kindB a b = true) : a = b := by
  cases a with
  | none => cases b <;> cases h
  | some a => cases b with
    | none => cases a <;> cases h
    | some b => cases a <;> cases b <;> first | rfl | cases h
def freeB (k : NameKind) : Bool := match k with | .free => true | _ => false
def locB (k : NameKind) : Bool := match k with | .local => true | .cell => true | _ => false
def blkB (N : List Str) (sc scope : Scope) (own : List (Str × Nat)) : Bool :=
  (match scope.kind with | .function => true | _ => false) && (scope.names.all fun y => kindB (scope.names.lookup y.1) (some y.2)) && (own.all fun p => match N[p.2]? with | some z => z == p.1 | none => false) &&
  (scope.names.all fun y => !freeB y.2 || kindB (sc.names.lookup y.1) (some .cell) || kindB (sc.names.lookup y.1) (some .free)) && (scope.names.all fun y => !locB y.2 || (own.any fun p => p.1 == y.1) || !(N.any fun z => z == y.1))
theorem blk_of {N : List Str} {sc scope : Scope} {own : List (Str × Nat)} (h : blkB N sc scope own = true) : BlkOk N sc scope own := by
  unfold blkB at h
  simp only [Bool.and_eq_true, List.all_eq_true, Bool.or_eq_true, Bool.not_eq_true'] at h
  obtain ⟨⟨⟨⟨h1, h2⟩, h3⟩, h4⟩, h5⟩ := h
  refine ⟨?_, fun y hy => kindB_ok (h2 y hy), fun p hp => ?_, fun y hy e => ?_, fun y hy e => ?_⟩
  · revert h1
    cases scope.kind <;> intro h1 <;> first | rfl | cases h1
  · have := h3 p hp
    revert this
    cases N[p.2]? with
    | none => intro h; cases h
    | some z => intro h; rw [eq_of_beq h]
  · have := h4 y hy
    rw [e] at this
    rcases this with (h | h) | h
    · cases h
    · exact .inl (kindB_ok h)
    · exact .inr (kindB_ok h)
  · rcases h5 y hy with (h | h) | h
    · rcases e with e | e <;> (rw [e] at h; cases h)
    · refine .inl ?_
      rw [List.any_eq_true] at h
      obtain ⟨p, hp, e2⟩ := h
      rw [List.mem_map]
      exact ⟨p, hp, eq_of_beq e2⟩
    · refine .inr fun hm => ?_
      have : (N.any fun z => z == y.1) = true := List.any_eq_true.mpr ⟨y.1, hm, beq_self_eq_true _⟩
      rw [this] at h; cases h
/-! ### the table of the plain functions is made of these -/
theorem mem_tn {i : Nat} {own : List Nat} (h : own.contains i = true) : TgIn (tN i) own := tin_n (by simpa using h)
theorem tin_nil {own : List Nat} : ∀ t ∈ ([] : List Tg), TgIn t own := fun _ h => by simp at h
theorem tin_cons {t : Tg} {ts : List Tg} {own : List Nat} (h : TgIn t own) (r : ∀ t ∈ ts, TgIn t own) : ∀ u ∈ t :: ts, TgIn u own := fun u hu => by
  rcases List.mem_cons.mp hu with e | hu
  · rw [e]; exact h
  · exact r u hu
theorem wk_of {K : PySem.W.Frag} {cl : Nat → Addr} : ∀ Hs J xs, Wk K cl Hs J xs → Wk K cl Hs J xs := fun _ _ _ h => h
theorem wkA_of {K : PySem.W.Frag} {cl : Nat → Addr} : ∀ Hs J xs, WkA K cl Hs J xs → Wk K cl Hs J xs := fun _ _ _ h => h _
/-- constants of the module, read off the written part -/
def valP (K : PySem.W.Frag) : Nat → Value → Option PV
  | _, .none => some .non
  | _, .bool b => some (.bl b)
  | _, .int i _ => some (.int i)
  | _, .str s _ => some (.str s)
  | 0, .ref _ => none
  | n + 1, .ref a => match K.lookup a with
    | some ⟨.type t, _, .seq its _, _⟩ => if t = "tuple" ∧ its.size ≤ sizeLine then (its.toList.mapM (valP K n)).map .tup else none
    | _ => none
  | _, _ => none
theorem valP_ok {K : PySem.W.Frag} {cl : Nat → Addr} : ∀ {n : Nat} {v : Value} {u : PV}, valP K n v = some u → ∃ x : V, RelV x v ∧ ∀ H, Rp K cl H x u := by
  have base : ∀ {n : Nat} {v : Value} {u : PV}, (∀ a, v ≠ .ref a) → valP K n v = some u → ∃ x : V, RelV x v ∧ ∀ H, Rp K cl H x u := by
    intro n v u hr e
    cases v with
    | none => cases n <;> (cases e; exact ⟨.non, rfl, fun _ => .non⟩)
    | bool b => cases n <;> (cases e; exact ⟨.bl b, rfl, fun _ => .bl b⟩)
    | int i t => cases n <;> (cases e; exact ⟨.int i, ⟨_, rfl⟩, fun _ => .int i⟩)
    | str i t => cases n <;> (cases e; exact ⟨.str i, ⟨_, rfl⟩, fun _ => .str i⟩)
    | ref a => exact absurd rfl (hr a)
    | _ => cases n <;> cases e
  intro n
  induction n with
  | zero =>
    intro v u e
    cases v with
    | ref a => cases e
    | _ => exact base (fun a z => by cases z) e
  | succ n ih =>
    intro v u e
    cases v with
    | ref a =>
      unfold valP at e
      split at e
      · rename_i t od its k sl q
        split at e
        · rename_i hk
          obtain ⟨rfl, hz⟩ := hk
          rw [Option.map_eq_some_iff] at e
          obtain ⟨us, e1, rfl⟩ := e
          have go : ∀ (l : List Value) (us : List PV), l.mapM (valP K n) = some us → ∃ xs : List V, Vals xs l ∧ ∀ H, RpA K cl H xs us := by
            intro l
            induction l with
            | nil => intro us e; simp at e; subst e; exact ⟨[], .nil, fun _ => .nil⟩
            | cons v l ih2 =>
              intro us e
              simp only [List.mapM_cons, Option.bind_eq_bind, Option.bind_eq_some_iff] at e
              obtain ⟨y, e2, ys, e3, e4⟩ := e
              cases e4
              obtain ⟨x, g1, g2⟩ := ih e2
              obtain ⟨xs, g3, g4⟩ := ih2 ys e3
              exact ⟨x :: xs, .cons g1 g3, fun H => .cons (g2 H) (g4 H)⟩
          obtain ⟨xs, h1, h2⟩ := go _ _ e1
          exact ⟨.ref a, rfl, fun H => .tup (.inr ⟨_, its, k, q, rfl, rfl, hz, h1⟩) (h2 H)⟩
        · cases e
      · cases e
    | _ => exact base (fun a z => by cases z) e
theorem gl_of {K : PySem.W.Frag} {cl : Nat → Addr} {mg : Str → Option Value} {x : Str} {n : Nat} {v : Value} {u : PV} (h : mg x = some v) (e : valP K n v = some u) : GlobV K cl mg x u := by
  obtain ⟨y, h1, h2⟩ := valP_ok (cl := cl) e
  exact ⟨y, v, h, h1, h2⟩
/-! name op= e -/
def addIP : PV → PV → Option PV
  | .int i, .int j => some (.int (i + j))
  | _, _ => none
def mulIP : PV → PV → Option PV
  | .int i, .int j => if mulOk i j = true then some (.int (i * j)) else none
  | _, _ => none
section
variable {X : Cx} {cl : Nat → Addr}
theorem ov_iadd : OpV X.K cl (rI0 fun i j => .int (i + j)) addIP := by
  intro W σ Hs H x y u v w Q s rx ry e q
  cases rx with
  | int i =>
    cases ry with
    | int j => cases e; exact ⟨_, _, rfl, rfl, q.here s (.int _)⟩
    | _ => cases e
  | _ => cases e
theorem ov_imul : OpV X.K cl (rI CMulS fun i j => .int (i * j)) mulIP := by
  intro W σ Hs H x y u v w Q s rx ry e q
  cases rx with
  | int i =>
    cases ry with
    | int j =>
      replace e : (if mulOk i j = true then some (PV.int (i * j)) else none) = some w := e
      split at e
      · rename_i hk
        cases e
        exact ⟨_, _, rfl, rfl, hk, q.here s (.int _)⟩
      · cases e
    | _ => cases e
  | _ => cases e
end
/-! from a def's text to its promise -/
section
variable {P : Program} {w : World} {K : PySem.W.Frag} {mg : Str → Option Value} {base : Heap} {cl : Nat → Addr} {x : Str} {st : Stmt} {n : Nat} {ps N : List Str}
theorem nun (h : ∃ f fd, Fun K x x st f fd ∧ mg x = some (.ref f)) (hb : ∀ {f : Addr} {fd : FuncData}, Fun K x x st f fd → Binds K fd ps []) : DefAt P w K mg base cl (0 + 2) x n (fun _ => .stuck) := by
  obtain ⟨f, fd, F, hm⟩ := h
  exact ⟨f, fd, ps, def_none, hm, F.kp, hb F⟩
theorem dun {d : Nat} {b : Env → Out} (h : ∃ f fd, Fun K x x st f fd ∧ mg x = some (.ref f)) (S : FnScope N ps (defScope st)) (hb : ∀ {f : Addr} {fd : FuncData}, Fun K x x st f fd → Binds K fd ps [])
    (hbody : ∀ (f : Addr) (cdv : Value) (A : Around) (outer : List PySem.Env) (s : Shared) (H : Hp) (E : XK) (He : Hp), Room (d + 2) (A.deeper (envOfC x (defScope st) s.heap.objs.size f cdv)) →
      PVs (cxOf (L2.CX P w) P w K mg base N x (defScope st) f cdv A outer s H E) cl (fun c d _ H => E c d H) He H (defBody st) b) : DefAt P w K mg base cl (d + 1 + 2) x ps.length (fun us => outR (b (startE N.length us))) := by
  obtain ⟨f, fd, F, hm⟩ := h
  exact ⟨f, fd, ps, def_ok F S fun cdv A outer s H E He hr => hbody f cdv A outer s H E He hr, hm, F.kp, hb F⟩
end
end VL
namespace VL
open PySem PySem.Spec PyProof.Rows L2
/-! ### x.index(y) -/
def idxO (xs : List PV) (y : PV) : Option PV := if flatP y = true ∧ xs.all flatP = true then (xs.findIdx? fun x => eqF x y).map fun (j : Nat) => PV.int ((j : Nat) : Int) else none
def eIdxL (a b : Ex) : Ex := fun ρ => (a ρ).bind fun x => match x with
  | .lst xs => (b ρ).bind fun y => opt (idxO xs y)
  | _ => .stuck
def eIdxT (ys : List Str) (b : Ex) : Ex := fun ρ => (b ρ).bind fun y => match y with
  | .str z => opt ((ys.findIdx? fun x => x == z).map fun (j : Nat) => PV.int ((j : Nat) : Int))
  | _ => .stuck
section
variable {X : Cx} {cl : Nat → Addr} {W : WX} {o e : Expr} {apos cpos : Pos} {f f' : Ex}
theorem ve_idxL (ho : PE X o (tv X.K cl W f)) (ha : PE X e (tv X.K cl W f'))
    (hbase : attributeBase o "index" X.env (eval o X.env) = eval o X.env := by rfl)
    (hfew : ((backTo cpos (starEach [e] X.env)).all (fun x => !x.1) && (backToKw cpos (keywordEach [] X.env)).all (fun x => x.1.isSome)
      && decide ([e].length + ([] : List Keyword).length + (if ([] : List Keyword).isEmpty then 0 else 1) < 30)) = true := by rfl)
    (hline : (apos.endLine == cpos.line) = true := by rfl) (hs : starEach [e] X.env = (false, eval e X.env) :: starEach [] X.env := by rfl) (hplain : (backTo cpos (starEach [] X.env)).any (·.1) = false := by rfl) :
    PE X (.Call (.Attribute o "index" apos) [e] [] cpos) (tv X.K cl W (eIdxL f f')) :=
  peWeak (pe_bm PySem.F.plainAttrs_list PySem.F.slot_list_index PySem.F.type_list_index mt_index ho (va_cons ha va_nil hs) hbase hfew hline hs hplain) fun σ H Q ⟨Hs, ρ, E, h⟩ => by
    refine gv_bind E h fun v x Hs1 H1 _ s1 rx h1 => ?_
    cases rx with
    | @lst a vs xs h ra =>
      refine ⟨.inl ⟨rfl, _, .of (s1.sub _ _ h)⟩, ?_⟩
      refine ⟨Hs1, ρ, E.up s1, ?_⟩
      replace h1 : GP X.K cl (Rp X.K cl) W Hs1 H1 σ ((f' ρ).bind fun y => opt (idxO xs y)) Q := h1
      unfold evs
      cases e1 : f' ρ with
      | ok y =>
        rw [e1] at h1
        intro ws Hs2 H2 s2 rw2
        replace h1 : GP X.K cl (Rp X.K cl) W Hs1 H1 σ (opt (idxO xs y)) Q := h1
        obtain ⟨w, e2, q⟩ := h1.opt
        cases rw2 with
        | cons ry rt =>
          cases rt
          unfold idxO at e2
          split at e2
          · rename_i hk
            rw [Option.map_eq_some_iff] at e2
            obtain ⟨j, e3, rfl⟩ := e2
            rw [List.findIdx?_eq_some_iff_getElem] at e3
            obtain ⟨hj, e4, e5⟩ := e3
            obtain ⟨z, g1, g2⟩ := ra.get (List.getElem?_eq_getElem hj)
            refine ⟨a, vs, _, j, z, rfl, rfl, .of (s2.sub _ _ (s2.fs _ _ h)), ry.flat hk.1, ra.flat hk.2, g1, ?_, fun m z' hm hz' => ?_, (GP.up q s2).here s2.sub (.int _)⟩
            · rw [eqF_ok (g2.mono s2.fs) ry]; exact e4
            · have hm2 : m < xs.length := by omega
              obtain ⟨z2, g3, g4⟩ := ra.get (List.getElem?_eq_getElem hm2)
              rw [g3] at hz'
              cases hz'
              rw [eqF_ok (g4.mono s2.fs) ry]
              simpa using e5 m hm
          · cases e2
      | exc c fs => rw [e1] at h1; exact h1
      | stuck => rw [e1] at h1; exact h1
    | _ => exact h1.elim
/-- what the tuple's rule asks -/
theorem idxT_use {σ : St} {Hs H : Hp} {ρ : Ev} {Q : VK} {p : Addr} {ys : List Str} (E : PEnv X.K cl Hs H σ ρ) (h : GP X.K cl (Rp X.K cl) W Hs H σ (eIdxT ys f' ρ) Q) (hp : ∀ Hs' H', Ext Hs H Hs' H' → SqT X.K H' p (ys.map V.str)) :
    ta X.K cl W (evs [f']) σ H fun xs H2 => (∃ q, ∃ ys : List Str, ∃ z j, V.ref p = .ref q ∧ xs = [.str z] ∧ SqT X.K H2 q (ys.map V.str) ∧ ys[j]? = some z ∧ (∀ m, m < j → ys[m]? ≠ some z) ∧ Q (.int (j : Nat)) H2) := by
  refine ⟨Hs, ρ, E, ?_⟩
  unfold evs
  unfold eIdxT at h
  cases e1 : f' ρ with
  | ok y =>
    rw [e1] at h
    intro ws Hs2 H2 s2 rw2
    cases rw2 with
    | cons ry rt =>
      cases rt
      cases ry with
      | str z =>
        obtain ⟨w, e2, q⟩ := GP.opt h
        rw [Option.map_eq_some_iff] at e2
        obtain ⟨j, e3, rfl⟩ := e2
        rw [List.findIdx?_eq_some_iff_getElem] at e3
        obtain ⟨hj, e4, e5⟩ := e3
        refine ⟨p, ys, z, j, rfl, rfl, hp _ _ s2, ?_, fun m hm hz => ?_, (GP.up q s2).here s2.sub (.int _)⟩
        · rw [List.getElem?_eq_getElem hj, eq_of_beq e4]
        · have hm2 : m < ys.length := by omega
          rw [List.getElem?_eq_getElem hm2] at hz
          have := e5 m hm
          rw [Option.some.inj hz] at this
          simp at this
      | _ => exact h.elim
  | exc c fs => rw [e1] at h; exact h
  | stuck => rw [e1] at h; exact h
/-- a tuple of texts of the module -/
def GlobT (K : PySem.W.Frag) (mg : Str → Option Value) (x : Str) (ys : List Str) : Prop := ∃ p o, mg x = some (.ref p) ∧ K.lookup p = some o ∧ o.cls = .type "tuple" ∧ o.dict = none ∧ ∀ H, SqT K H p (ys.map V.str)
theorem ve_idxG {x : Str} {ys : List Str} {p1 : Pos} (G : GlobT X.K X.mg x ys) (ha : PE X e (tv X.K cl W f')) (hg : Gl X x := by rfl) (hd : (x == ("__debug__" : Str)) = false := by decide)
    (hbase : attributeBase (.Name x p1) "index" X.env (eval (.Name x p1) X.env) = eval (.Name x p1) X.env := by rfl)
    (hfew : ((backTo cpos (starEach [e] X.env)).all (fun x => !x.1) && (backToKw cpos (keywordEach [] X.env)).all (fun x => x.1.isSome)
      && decide ([e].length + ([] : List Keyword).length + (if ([] : List Keyword).isEmpty then 0 else 1) < 30)) = true := by rfl)
    (hline : (apos.endLine == cpos.line) = true := by rfl) (hs : starEach [e] X.env = (false, eval e X.env) :: starEach [] X.env := by rfl) (hplain : (backTo cpos (starEach [] X.env)).any (·.1) = false := by rfl) :
    PE X (.Call (.Attribute (.Name x p1) "index" apos) [e] [] cpos) (tv X.K cl W (eIdxT ys f')) := by
  obtain ⟨p, o, hm, hl, hc, hdd, hT⟩ := G
  refine peWeak (pe_bm PySem.F.plainAttrs_tuple PySem.F.slot_tuple_index PySem.F.type_tuple_index mt_tup_index (pe_glob (v := .ref p) hg hm rfl hd) (va_cons ha va_nil hs) hbase hfew hline hs hplain) fun σ H Q ⟨Hs, ρ, E, h⟩ => ?_
  exact ⟨.inr (.inl ⟨rfl, o, hl, hc, hdd⟩), idxT_use E h fun _ _ _ => hT _⟩
/-- a written tuple of texts -/
theorem evs_strs : ∀ (ys : List Str) (ρ : Ev), evs (ys.map fun z => eC (.str z)) ρ = .ok (ys.map .str)
  | [], _ => rfl
  | y :: ys, ρ => by
    show ((eC (.str y) ρ).bind fun x => (evs (ys.map fun z => eC (.str z)) ρ).bind fun xs => .ok (x :: xs)) = _
    rw [evs_strs ys ρ]
    rfl
theorem rpa_strs {K : PySem.W.Frag} {H : Hp} : ∀ {ys : List Str} {vs : List V}, RpA K cl H vs (ys.map .str) → vs = ys.map V.str
  | [], _, .nil => rfl
  | y :: ys, _, .cons r t => by
    cases r
    rw [rpa_strs t]
    rfl
theorem ve_idxD {es : List Expr} {x1 : Nat} {p1 : Pos} {ys : List Str} (he : PA X es (ta X.K cl W (evs (ys.map fun z => eC (.str z))))) (ha : PE X e (tv X.K cl W f')) (hl : ys.length ≤ sizeLine := by decide)
    (hbase : attributeBase (.Tuple es x1 p1) "index" X.env (eval (.Tuple es x1 p1) X.env) = eval (.Tuple es x1 p1) X.env := by rfl)
    (hfew : ((backTo cpos (starEach [e] X.env)).all (fun x => !x.1) && (backToKw cpos (keywordEach [] X.env)).all (fun x => x.1.isSome)
      && decide ([e].length + ([] : List Keyword).length + (if ([] : List Keyword).isEmpty then 0 else 1) < 30)) = true := by rfl)
    (hline : (apos.endLine == cpos.line) = true := by rfl) (hs : starEach [e] X.env = (false, eval e X.env) :: starEach [] X.env := by rfl) (hplain : (backTo cpos (starEach [] X.env)).any (·.1) = false := by rfl) :
    PE X (.Call (.Attribute (.Tuple es x1 p1) "index" apos) [e] [] cpos) (tv X.K cl W (eIdxT ys f')) := by
  refine ⟨fun pins s σ H Q I ⟨Hs, ρ, E, h⟩ => ?_⟩
  refine wpAny_Call_method_late hbase hfew hline rfl ?_
  refine wpAny_Tuple_spliced (thn (he.run p1 pins s σ H (fun xs H1 => xs = ys.map V.str ∧ ∃ Hs1, Ext Hs H Hs1 H1) I ⟨Hs, ρ, E, ?_⟩) fun us s1 hh => ?_)
  · rw [evs_strs]
    exact fun x Hs' H' s' rx => ⟨rpa_strs rx, Hs', s'⟩
  · obtain ⟨xs, H1, I1, r, e1, Hs1, s1'⟩ := hh
    have z : xs.length ≤ sizeLine := by rw [e1, List.length_map]; exact hl
    refine ⟨by rw [← r.length]; exact z, ?_⟩
    have hf : H1 s1.heap.objs.size = none := I1.hok.fresh (Nat.le_refl _)
    have I2 : Inv X pins σ (upd H1 s1.heap.objs.size (.tup xs)) { s1 with heap := s1.heap.push { cls := .type "tuple", data := .seq us.toArray 0 } } :=
      I1.laid (t' := s1.toks) (fun b u e => Heap.get?_push_of_some _ e) (Nat.le_refl _) ⟨z, us, r, ⟨_, Heap.get?_push_size _ rfl, rfl, _, rfl⟩⟩
    refine ⟨"tuple", _, PySem.F.plainAttrs_tuple, PySem.F.slot_tuple_index, PySem.F.type_tuple_index, ⟨_, Heap.get?_push_size _ rfl, rfl⟩, fun a e => ?_, ?_⟩
    · cases e
      exact ⟨_, Heap.get?_push_size _ rfl, rfl⟩
    · subst e1
      have X2 := s1'.trans (Ext.new (o := .tup (ys.map V.str)) s1'.sub hf)
      have q2 := idxT_use (p := s1.heap.objs.size) (E.up X2) (GP.up h X2) fun Hs' H' t => .of (t.same _ _ upd_same)
      have hA := (va_cons ha va_nil hs).run cpos pins _ σ _ _ I2 q2
      rw [hs] at hA ⊢
      refine Calls.callWith_builtin (by show (false || (backTo cpos (starEach [] X.env)).any (·.1)) = false; rw [hplain] <;> rfl) (Calls.evalArgs_plain ?_)
      exact thn hA fun us2 s2 ⟨vs, H3, I3, r3, q3⟩ => mt_tup_index pins s2 σ H3 (.ref s1.heap.objs.size) vs _ us2 Q I3 rfl r3 q3
end
end VL
namespace VL
open PySem PySem.Spec PyProof.Rows L2
/-! ### what the top has written -/
section
variable {K : PySem.W.Frag} {h : Heap} {mg : Str → Option Value} {x : Str}
theorem fun_at {st : Stmt} {f : Addr} {od an : Option Addr} {osl : Array (Option Value)} {oc kV doc pm cdv ct : Value} (X : K.In h) (G : h.Ns mainGlobals mg) (a : PySem.W.nsIn K mainGlobals x = some (some (.ref f)))
    (l : K.lookup f = some ⟨oc, od, .func (PySem.W.fnOf x x (defArgs st) (defBody st) (defScope st) .none kV doc pm an cdv ct), osl⟩) (c : PySem.W.codeIn K cdv x = true) (k : PySem.W.keepIn K (.ref f) = true) : ∃ f fd, Fun K x x st f fd ∧ mg x = some (.ref f) :=
  ⟨f, _, fun_mk l c k, PySem.W.mg_of X G a⟩
theorem none_at (X : K.In h) (G : h.Ns mainGlobals mg) (a : PySem.W.nsIn K mainGlobals x = some none) : mg x = none := PySem.W.mg_none_of X G a
theorem int_at {cl : Nat → Addr} {i : Int} {t : Tok} (X : K.In h) (G : h.Ns mainGlobals mg) (a : PySem.W.nsIn K mainGlobals x = some (some (.int i t))) : GlobV K cl mg x (.int i) := ⟨.int i, _, PySem.W.mg_of X G a, ⟨_, rfl⟩, fun _ => .int i⟩
theorem str_at {cl : Nat → Addr} {z : Str} {t : Tok} (X : K.In h) (G : h.Ns mainGlobals mg) (a : PySem.W.nsIn K mainGlobals x = some (some (.str z t))) : GlobV K cl mg x (.str z) := ⟨.str z, _, PySem.W.mg_of X G a, ⟨_, rfl⟩, fun _ => .str z⟩
/-! a value that is written out -/
mutual
inductive Wr (K : PySem.W.Frag) : Value → PV → Prop
  | non : Wr K .none .non
  | bl (b : Bool) : Wr K (.bool b) (.bl b)
  | int (i : Int) (t : Tok) : Wr K (.int i t) (.int i)
  | str (z : Str) (t : Tok) : Wr K (.str z t) (.str z)
  | tup {a : Addr} {od : Option Addr} {its : Array Value} {n : Nat} {sl : Array (Option Value)} {vs : List Value} {us : List PV} (l : K.lookup a = some ⟨.type "tuple", od, .seq its n, sl⟩) (e : its.toList = vs) (r : Wrs K vs us) (hl : us.length ≤ sizeLine) : Wr K (.ref a) (.tup us)
inductive Wrs (K : PySem.W.Frag) : List Value → List PV → Prop
  | nil : Wrs K [] []
  | cons {v : Value} {vs : List Value} {u : PV} {us : List PV} : Wr K v u → Wrs K vs us → Wrs K (v :: vs) (u :: us)
end
mutual
theorem Wr.rp {cl : Nat → Addr} : ∀ {v : Value} {u : PV}, Wr K v u → ∃ y : V, RelV y v ∧ ∀ H, Rp K cl H y u
  | _, _, .non => ⟨.non, rfl, fun _ => .non⟩
  | _, _, .bl b => ⟨.bl b, rfl, fun _ => .bl b⟩
  | _, _, .int i t => ⟨.int i, ⟨_, rfl⟩, fun _ => .int i⟩
  | _, _, .str z t => ⟨.str z, ⟨_, rfl⟩, fun _ => .str z⟩
  | _, _, .tup (a := a) (its := its) (n := n) l e r hl => by
    obtain ⟨xs, h1, h2⟩ := Wrs.rp (cl := cl) r
    refine ⟨.ref a, rfl, fun H => .tup (.inr ⟨_, its, n, l, rfl, rfl, ?_, by rw [e]; exact h1⟩) (h2 H)⟩
    rw [← Array.length_toList, e, ← h1.length, (h2 H).length]; exact hl
theorem Wrs.rp {cl : Nat → Addr} : ∀ {vs : List Value} {us : List PV}, Wrs K vs us → ∃ xs : List V, Vals xs vs ∧ ∀ H, RpA K cl H xs us
  | _, _, .nil => ⟨[], .nil, fun _ => .nil⟩
  | _, _, .cons r t => by
    obtain ⟨y, h1, h2⟩ := Wr.rp (cl := cl) r
    obtain ⟨xs, h3, h4⟩ := Wrs.rp (cl := cl) t
    exact ⟨y :: xs, .cons h1 h3, fun H => .cons (h2 H) (h4 H)⟩
end
theorem val_at {cl : Nat → Addr} {v : Value} {u : PV} (X : K.In h) (G : h.Ns mainGlobals mg) (a : PySem.W.nsIn K mainGlobals x = some (some v)) (w : Wr K v u) : GlobV K cl mg x u := by
  obtain ⟨y, h1, h2⟩ := w.rp (cl := cl)
  exact ⟨y, v, PySem.W.mg_of X G a, h1, h2⟩
theorem tupT_at {a : Addr} {its : Array Value} {n : Nat} {sl : Array (Option Value)} {ys : List Str} (X : K.In h) (G : h.Ns mainGlobals mg) (e : PySem.W.nsIn K mainGlobals x = some (some (.ref a))) (l : K.lookup a = some ⟨.type "tuple", none, .seq its n, sl⟩) (r : Wrs K its.toList (ys.map PV.str)) (hl : ys.length ≤ sizeLine) : GlobT K mg x ys := by
  have w : Wr K (.ref a) (.tup (ys.map .str)) := .tup l rfl r (by simpa using hl)
  obtain ⟨y, h1, h2⟩ := w.rp (cl := fun _ => 0)
  cases y with
  | ref b =>
    have h1 : Value.ref a = Value.ref b := h1
    cases h1
    refine ⟨a, _, PySem.W.mg_of X G e, l, rfl, rfl, fun H => ?_⟩
    cases h2 H with
    | tup hs hr => rw [← rpa_strs hr]; exact hs
  | str z => obtain ⟨t, e⟩ := h1; cases e
  | int z => obtain ⟨t, e⟩ := h1; cases e
  | byt z => obtain ⟨t, e⟩ := h1; cases e
  | flt z => obtain ⟨t, e⟩ := h1; cases e
  | non => cases h1
  | bl z => cases h1
  | ty z => cases h1
end
/-! own errors -/
theorem sup_of {K : PySem.W.Frag} {C L N NL : Addr} {nm q nmL qL : Str} {bs bm bsL bmL sub subL : List Value} {sn snL : List Str} {ab abL : Bool} {col colL : Option Bool} {dd ddL : Option Addr} {k0 k1 k2 k3 k5 j0 j1 j2 j3 j5 : Option Value} {z : Option (Option Value)} {n : Str}
    (lC : K.lookup C = some (excClassObj nm q C N bs bm true sn sub ab col dd k0 k1 k2 k3 k5 "ValueError.__new__")) (lL : K.lookup L = some (excClassObj nmL qL L NL bsL bmL true snL subL abL colL ddL j0 j1 j2 j3 j5 "ValueError.__new__")) (e : bm = .ref L :: bmL)
    (f : PySem.W.findIn K (.ref L) n = z) : PySem.W.ks_superIn K C C n = z := by
  have h1 : PySem.W.clsIn K C = some { name := nm, bases := bs, mro := .ref C :: bm, ns := N, qualname := q, hasDict := true, slotNames := sn, subclasses := sub, abstract := ab, collection := col, hasDel := false } := by
    unfold PySem.W.clsIn
    rw [lC] <;> rfl
  unfold PySem.W.ks_superIn
  rw [h1]
  show PySem.W.alongIn K n (((Value.ref C :: bm).dropWhile (· != .ref C)).drop 1) = z
  have e2 : (Value.ref C :: bm).dropWhile (· != .ref C) = .ref C :: bm := by simp [List.dropWhile]
  rw [e2, ← f]
  show PySem.W.alongIn K n bm = _
  show PySem.W.alongIn K n bm = (match K.lookup L with
    | some ⟨_, _, .cls cd, _⟩ => PySem.W.alongIn K n cd.mro
    | _ => none)
  rw [lL, e] <;> rfl
theorem exm_of {K : PySem.W.Frag} {C c : Addr} {b : Bool} (h1 : PySem.W.subIn K (.ref C) (.type "BaseException") = some true) (hd : PySem.W.isClsIn K C = true) (ht : PySem.W.typeIn K (.ref C) = some (.type "type")) (h4 : PySem.W.subIn K (.ref c) (.ref C) = some b) : PySem.W.exmOne K (.ref c) (.ref C) = some b := by
  have e1 : (PySem.W.subIn K (.ref C) (.type "BaseException") == some true) = true := by rw [h1] <;> rfl
  have e2 : ((PySem.W.clsIn K C).isSome && PySem.W.typeIn K (.ref C) == some (.type "type")) = true := by
    have h2' : (PySem.W.clsIn K C).isSome = true := hd
    rw [h2', ht] <;> rfl
  show (if (PySem.W.subIn K (.ref C) (.type "BaseException") == some true) = true then (if ((PySem.W.clsIn K C).isSome && PySem.W.typeIn K (.ref C) == some (.type "type")) = true then PySem.W.subIn K (.ref c) (.ref C) else none) else none) = some b
  rw [if_pos e1, if_pos e2]
  exact h4
/-! the law's own promise -/
def spLaw (K : PySem.W.Frag) : Sp := fun vs H Q _ => ∃ (a : Addr) (ns : List Int), vs = [.ref a] ∧ SqL K H a (ns.map V.int) ∧ ns.length ≤ 63 ∧ (∀ z ∈ ns, Builtin.Int.intBits z ≤ 1048576) ∧ ∀ H', Q (.bl true) H'
theorem law_imp {K : PySem.W.Frag} {cl : Nat → Addr} {g : List PV → R PV} (hg : ∀ ns : List Int, ns.length ≤ 63 → (∀ z ∈ ns, Builtin.Int.intBits z ≤ 1048576) → g [.src (ns.map .int)] = .ok (.bl true)) (vs : List V) (H : Hp) (Q : VK) (E : XK) (h : spLaw K vs H Q E) : spF K cl 1 g vs H Q E := by
  obtain ⟨a, ns, rfl, hs, hl, hb, q⟩ := h
  refine ⟨H, [.src (ns.map .int)], Sub.refl H, .cons (.src hs (rpa_ints ns)) .nil, rfl, ?_⟩
  rw [hg ns hl hb]
  intro x Hs' H' _ rx
  cases rx
  exact q H'
/-! the scope and the facts of an own error's __init__ -/
def exScB (N : List Str) (sc : Scope) : Bool := (match sc.kind with | .function => true | _ => false) && !sc.isCoroutine && !sc.isGenerator && (N.all fun x => kindB (sc.names.lookup x) (some .local)) && (sc.names.all fun y => match y.2 with | .cell => false | _ => true) &&
  (sc.names.all fun y => !freeB y.2 || y.1 == ("__class__" : Str)) && kindB (sc.names.lookup ("__class__" : Str)) (some .free) && kindB (sc.names.lookup ("super" : Str)) (some .globalImplicit)
theorem exSc_of {N : List Str} {sc : Scope} (nd : N.Nodup) (h : exScB N sc = true) : ExScope N sc := by
  unfold exScB at h
  simp only [Bool.and_eq_true, List.all_eq_true, Bool.or_eq_true, Bool.not_eq_true'] at h
  obtain ⟨⟨⟨⟨⟨⟨⟨h1, h2⟩, h3⟩, h4⟩, h5⟩, h6⟩, h7⟩, h8⟩ := h
  refine ⟨?_, h2, h3, nd, fun x hx => kindB_ok (h4 x hx), fun x hx e => ?_, fun x e => ?_, kindB_ok h7, kindB_ok h8⟩
  · revert h1
    cases sc.kind <;> intro h1 <;> first | rfl | cases h1
  · have := h5 x hx
    rw [e] at this
    cases this
  · rcases h6 _ (PySem.mem_of_lookup e) with q | q
    · cases q
    · exact eq_of_beq q
theorem exc_facts {K : PySem.W.Frag} {P : Program} {C fI cc cda N : Addr} {qual nm q ff : Str} {sI : Stmt} {bs bm sub : List Value} {sn : List Str} {ab : Bool} {col : Option Bool} {dd od od2 od3 an : Option Addr} {k0 k1 k2 k3 k5 : Option Value} {oc oc2 oc3 kV doc pm ct : Value} {osl osl2 osl3 : Array (Option Value)} {vs : Array Value} {tf : Tok}
    (lC : K.lookup C = some (excClassObj nm q C N bs bm true sn sub ab col dd k0 k1 k2 k3 k5 "ValueError.__new__")) (hbm : PySem.HandSPX.refsVE bm = true) (sa : PySem.W.findIn K (.ref C) "__setattr__" = some (some (.builtin "object.__setattr__"))) (exC : PySem.W.subIn K (.ref C) (.type "BaseException") = some true)
    (tyC : PySem.W.typeIn K (.ref C) = some (.type "type")) (kC : PySem.W.keepIn K (.ref C) = true) (ini : PySem.W.findIn K (.ref C) "__init__" = some (some (.ref fI))) (tyI : PySem.W.typeIn K (.ref fI) = some (.type "function"))
    (lI : K.lookup fI = some ⟨oc, od, .func (PySem.W.ksFn "__init__" qual (defArgs sI) (defBody sI) (defScope sI) .none kV doc pm an (.ref cda) ct cc), osl⟩) (code : PySem.W.codeIn K (.ref cda) qual = true) (lF : K.lookup cda = some ⟨oc2, od2, .fields vs, osl2⟩) (h2 : vs[2]? = some (.str ff tf)) (hfile : ((P.main.file : Str) == ff) = true)
    (lc : K.lookup cc = some ⟨oc3, od3, .cell (some (.ref C)), osl3⟩) (sup : PySem.W.ks_superIn K C C "__init__" = some (some (.builtin "ValueError.__init__"))) (self : PySem.W.mroIn K C (.ref C) = some true) (ve : PySem.W.subIn K (.ref C) (.type "ValueError") = some true) (noS : PySem.W.nsIn K mainGlobals "super" = some none) (third : PySem.W.nsIn K cStatics "thirdparty.any" = some none) :
    ExC K P C fI cc cda qual sI :=
  ⟨⟨⟨nm, q, N, bs, bm, sn, sub, ab, col, dd, k0, k1, k2, k3, k5, lC, hbm⟩, sa, exC, tyC, kC⟩, ⟨oc, od, kV, doc, pm, an, ct, osl, lI⟩, code, ⟨oc2, od2, vs, osl2, ff, tf, lF, h2, hfile⟩, ⟨oc3, od3, osl3, lc⟩, sup, self, ve, noS, third, ini, tyI⟩
/-- a class of own errors, by its __init__'s promise -/
theorem exc_at {K : PySem.W.Frag} {P : Program} {w : World} {h : Heap} {mg : Str → Option Value} {base : Heap} {cl : Nat → Addr} {C fI cc cda : Addr} {qual x : Str} {sI : Stmt} {k c n : Nat} {sp : Fsp} {ps : List Str} (X : K.In h) (G : h.Ns mainGlobals mg) (a : PySem.W.nsIn K mainGlobals x = some (some (.ref C))) (T : ExC K P C fI cc cda qual sI)
    (F : ∀ {fd : FuncData} {oc : Value} {od : Option Addr} {osl : Array (Option Value)}, K.lookup fI = some ⟨oc, od, .func fd, osl⟩ → FnOk P w K mg base (L2.CX P w) k fI fd ps (spI C n sp))
    (hb : ∀ (kV doc pm : Value) (an : Option Addr) (ct : Value) (us : List Value), us.length = ps.length → bindArgs (PySem.W.ksFn "__init__" qual (defArgs sI) (defBody sI) (defScope sI) .none kV doc pm an (.ref cda) ct cc) ⟨us, []⟩ = pure (ps.zip us)) (hC : C = cl c) : ExcAt P w K mg base cl k x c n sp := by
  obtain ⟨oc, od, kV, doc, pm, an, ct, osl, lI⟩ := T.fn
  exact ⟨C, fI, _, ps, T.base, T.ini, T.tyI, F lI, .all (hb kV doc pm an ct), PySem.W.mg_of X G a, hC⟩
theorem exm_at {K : PySem.W.Frag} {h : Heap} {mg : Str → Option Value} {cl : Nat → Addr} {C : Addr} {x : Str} {mt : Nat → Option Bool} (X : K.In h) (G : h.Ns mainGlobals mg) (a : PySem.W.nsIn K mainGlobals x = some (some (.ref C))) (hx : ∀ k b, mt k = some b → PySem.W.exmOne K (.ref (cl k)) (.ref C) = some b) : ExmAt K mg cl x mt := ⟨C, PySem.W.mg_of X G a, hx⟩
theorem cx_no {P : Program} (w : World) (H : Hp) (s : Shared) (e : Value) (s' : Shared) (h : L2.CX P w [] H s (fun _ _ _ => False) e s') : False := by
  obtain ⟨_, _, _, _, _, _, _, _, _, _, _, _, z⟩ := h
  exact z.elim
/-- a table of plain functions -/
def look : List (Nat × (List PV → R PV)) → Nat → List PV → R PV
  | [], _ => fun _ => .stuck
  | (k, g) :: r, n => if Nat.beq k n = true then g else look r n
end VL
namespace VL
open PySem PySem.Spec PyProof.Rows L2
/-! ### the plain functions, run by simp -/
section
variable {ρ : Ev} {r : Env} {α β : Type}
@[simp] theorem bind_okS (a : α) (f : α → R β) : (R.ok a).bind f = f a := rfl
@[simp] theorem bind_excS (c fs) (f : α → R β) : (R.exc c fs : R α).bind f = .exc c fs := rfl
@[simp] theorem bind_stuckS (f : α → R β) : (R.stuck : R α).bind f = .stuck := rfl
@[simp] theorem opt_someS (a : α) : opt (some a) = .ok a := rfl
@[simp] theorem opt_noneS : opt (none : Option α) = .stuck := rfl
@[simp] theorem eVar_0 (v : PV) (ρ : Ev) : eVar 0 (some v :: ρ) = .ok v := rfl
@[simp] theorem eVar_S (n : Nat) (x : Option PV) (ρ : Ev) : eVar (n + 1) (x :: ρ) = eVar n ρ := rfl
@[simp] theorem eC_S (v : PV) : eC v ρ = .ok v := rfl
@[simp] theorem e1_S (g) (a : Ex) : e1 g a ρ = (a ρ).bind fun x => opt (g x) := rfl
@[simp] theorem e2_S (g) (a b : Ex) : e2 g a b ρ = (a ρ).bind fun x => (b ρ).bind fun y => opt (g x y) := rfl
@[simp] theorem eIf_S (c) (a b : Ex) : eIf c a b ρ = (c ρ).bind fun t => if t = true then a ρ else b ρ := rfl
@[simp] theorem evs_0 : evs [] ρ = .ok [] := rfl
@[simp] theorem evs_S (a : Ex) (r) : evs (a :: r) ρ = (a ρ).bind fun x => (evs r ρ).bind fun xs => .ok (x :: xs) := rfl
@[simp] theorem eArgs_S (g) (as : List Ex) : eArgs g as ρ = (evs as ρ).bind g := rfl
@[simp] theorem eCB_S (g) (as : List Ex) : eCB g as ρ = (evs as ρ).bind fun xs => opt (g xs) := rfl
@[simp] theorem gTup_S (xs : List PV) (h : xs.length ≤ sizeLine) : gTupV xs = .ok (.tup xs) := if_pos h
@[simp] theorem gLst_S (xs : List PV) (h : xs.length ≤ sizeLine) : gLstV xs = .ok (.lst xs) := if_pos h
@[simp] theorem gN_S (n : Nat) (g) (us : List PV) (h : us.length = n) : gN n g us = g us := if_pos h
def asB : PV → R Bool
  | .bl b => .ok b
  | _ => .stuck
@[simp] theorem asB_b (b) : asB (.bl b) = .ok b := rfl
def asI : PV → R (Option Int)
  | .int i => .ok (some i)
  | _ => .stuck
@[simp] theorem asI_i (b) : asI (.int b) = .ok (some b) := rfl
def andK (b : Ex) (ρ : Ev) : PV → R PV
  | .bl t => if t = true then b ρ else .ok (.bl false)
  | _ => .stuck
@[simp] theorem andK_b (b ρ t) : andK b ρ (.bl t) = if t = true then b ρ else .ok (.bl false) := rfl
def orK (b : Ex) (ρ : Ev) : PV → R PV
  | .bl t => if t = true then .ok (.bl true) else b ρ
  | _ => .stuck
@[simp] theorem orK_b (b ρ t) : orK b ρ (.bl t) = if t = true then .ok (.bl true) else b ρ := rfl
def notK : PV → R PV
  | .bl t => .ok (.bl (!t))
  | _ => .stuck
@[simp] theorem notK_b (t) : notK (.bl t) = .ok (.bl (!t)) := rfl
@[simp] theorem eTst_S (a : Ex) : eTst a ρ = (a ρ).bind asB := by unfold eTst; congr <;> (funext x; cases x <;> rfl)
@[simp] theorem eTru_S (a : Ex) : eTru a ρ = (a ρ).bind fun x => opt (truV x) := rfl
@[simp] theorem cAnd_S (a b) : cAnd a b ρ = (a ρ).bind fun t => if t = true then b ρ else .ok false := rfl
@[simp] theorem cOr_S (a b) : cOr a b ρ = (a ρ).bind fun t => if t = true then .ok true else b ρ := rfl
@[simp] theorem cNot_S (a) : cNot a ρ = (a ρ).bind fun t => .ok (!t) := rfl
@[simp] theorem eAnd_S (a b : Ex) : eAnd a b ρ = (a ρ).bind (andK b ρ) := by unfold eAnd; congr <;> (funext x; cases x <;> rfl)
@[simp] theorem eOr_S (a b : Ex) : eOr a b ρ = (a ρ).bind (orK b ρ) := by unfold eOr; congr <;> (funext x; cases x <;> rfl)
@[simp] theorem eNot_S (a : Ex) : eNot a ρ = (a ρ).bind notK := by unfold eNot; congr <;> (funext x; cases x <;> rfl)
@[simp] theorem eChain_S (g g') (a b c : Ex) : eChain g g' a b c ρ = (a ρ).bind fun x => (b ρ).bind fun y => (opt (g x y)).bind (chainK g' c ρ y) := rfl
@[simp] theorem chainK_S (g') (c : Ex) (y : PV) (k : Bool) : chainK g' c ρ y (.bl k) = if k = true then (c ρ).bind fun w => opt (g' y w) else .ok (.bl false) := rfl
@[simp] theorem pNo_S : pNo ρ = .ok none := rfl
@[simp] theorem pAt_S (a : Ex) : pAt a ρ = (a ρ).bind asI := by unfold pAt; congr <;> (funext x; cases x <;> rfl)
@[simp] theorem eSl_S (a : Ex) (lo hi : Pt) : eSl a lo hi ρ = (a ρ).bind fun x => (lo ρ).bind fun l => (hi ρ).bind fun h => opt (slP x l h) := rfl
@[simp] theorem asLst_S (f) : asLst f ρ = (f ρ).bind fun xs => .ok (.lst xs) := rfl
@[simp] theorem eLst1_S (fs : List Ex) : eLst1 fs ρ = (evs fs ρ).bind fun xs => if xs.length ≤ sizeLine then .ok xs else .stuck := rfl
@[simp] theorem eO2_S (g) (a b : Ex) : eO2 g a b ρ = (a ρ).bind fun x => (b ρ).bind fun y => lstOf (g x y) := rfl
@[simp] theorem eOlist_S (a : Ex) : eOlist a ρ = (a ρ).bind fun x => lstOf (listP [x]) := rfl
def oslK (l h : Option Int) : PV → R (List PV)
  | .lst xs => .ok (cutP xs l h)
  | .src xs => .ok (cutP xs l h)
  | _ => .stuck
@[simp] theorem oslK_l (l h xs) : oslK l h (.lst xs) = .ok (cutP xs l h) := rfl
@[simp] theorem eOsl_S (a : Ex) (lo hi : Pt) : eOsl a lo hi ρ = (a ρ).bind fun x => (lo ρ).bind fun l => (hi ρ).bind fun h => oslK l h x := by
  unfold eOsl; congr <;> (funext x; congr <;> (funext l; congr <;> (funext h; cases x <;> rfl)))
@[simp] theorem lstOf_S (xs : List PV) : lstOf (some (.lst xs)) = .ok xs := rfl
@[simp] theorem eLc_S (own t it c e) : eLc own t it c e ρ = (it ρ).bind fun xs => szO (lcL t c e (wipeE ρ own) xs) := rfl
@[simp] theorem szO_S (ys : List PV) : szO (.ok ys) = if ys.length ≤ sizeLine then .ok ys else .stuck := rfl
@[simp] theorem cYes_S : cYes ρ = .ok true := rfl
@[simp] theorem iSeq_S (a : Ex) : iSeq a ρ = (a ρ).bind itemsP := rfl
def rg1 (j : Int) : R (List PV) := if -(2 ^ 62) ≤ j ∧ j < 2 ^ 62 then .ok (rangeP 0 j.toNat) else .stuck
def rg2 (i j : Int) : R (List PV) := if -(2 ^ 62) ≤ i ∧ i < 2 ^ 62 ∧ -(2 ^ 62) ≤ j ∧ j < 2 ^ 62 then .ok (rangeP i (j - i).toNat) else .stuck
@[simp] theorem rg1_nat {n : Nat} (h : n ≤ 1000000000) : rg1 (n : Int) = .ok (rangeP 0 n) := by
  unfold rg1
  rw [if_pos ⟨by omega, by omega⟩]
  rfl
theorem rg2_nat {i n : Nat} (h0 : i ≤ 1000000000) (h : n ≤ 1000000000) : rg2 (i : Int) (n : Int) = .ok (rangeP (i : Int) (n - i)) := by
  unfold rg2
  rw [if_pos ⟨by omega, by omega, by omega, by omega⟩]
  congr 2
  omega
def rgK : PV → R (List PV)
  | .int j => rg1 j
  | _ => .stuck
@[simp] theorem rgK_i (j) : rgK (.int j) = rg1 j := rfl
def rgK2 : PV → PV → R (List PV)
  | .int i, .int j => rg2 i j
  | _, _ => .stuck
@[simp] theorem rgK2_i (i j) : rgK2 (.int i) (.int j) = rg2 i j := rfl
@[simp] theorem iR1_S (a : Ex) : iR1 a ρ = (a ρ).bind rgK := by unfold iR1; congr <;> (funext x; cases x <;> rfl)
@[simp] theorem iR2_S (a b : Ex) : iR2 a b ρ = (a ρ).bind fun x => (b ρ).bind fun y => rgK2 x y := by unfold iR2; congr <;> (funext x; congr <;> (funext y; cases x <;> cases y <;> rfl))
def idxK (b : R PV) : PV → R PV
  | .lst xs => b.bind fun y => opt (idxO xs y)
  | _ => .stuck
@[simp] theorem idxK_l (b xs) : idxK b (.lst xs) = b.bind fun y => opt (idxO xs y) := rfl
@[simp] theorem eIdxL_S (a b : Ex) : eIdxL a b ρ = (a ρ).bind (idxK (b ρ)) := by unfold eIdxL; congr <;> (funext x; cases x <;> rfl)
def idxS (ys : List Str) : PV → R PV
  | .str z => opt ((ys.findIdx? fun x => x == z).map fun (j : Nat) => PV.int ((j : Nat) : Int))
  | _ => .stuck
@[simp] theorem idxS_s (ys z) : idxS ys (.str z) = opt ((ys.findIdx? fun x => x == z).map fun (j : Nat) => PV.int ((j : Nat) : Int)) := rfl
@[simp] theorem eIdxT_S (ys : List Str) (b : Ex) : eIdxT ys b ρ = (b ρ).bind (idxS ys) := by unfold eIdxT; congr <;> (funext x; cases x <;> rfl)
@[simp] theorem wipeE_0 : wipeE ρ [] = ρ := rfl
@[simp] theorem wipeE_S (v vs) : wipeE ρ (v :: vs) = (wipeE ρ vs).set v none := rfl
@[simp] theorem setE_0 : setE [] ρ = ρ := rfl
@[simp] theorem setE_S (i v) (as : As) : setE ((i, v) :: as) ρ = setE as (ρ.set i (some v)) := rfl
@[simp] theorem setS_0 : setS [] r = r := rfl
@[simp] theorem setS_S (i v) (as : As) : setS ((i, v) :: as) r = setS as (r.set i (.fz v)) := rfl
@[simp] theorem tN_S (i : Nat) (v : PV) : tN i v = some [(i, v)] := rfl
@[simp] theorem tT_S (ts : List Tg) (vs : List PV) : tT ts (.tup vs) = tTs ts vs := rfl
@[simp] theorem tTs_0 : tTs [] [] = some [] := rfl
@[simp] theorem tTs_S (t : Tg) (ts : List Tg) (v : PV) (vs : List PV) : tTs (t :: ts) (v :: vs) = (t v).bind fun a => (tTs ts vs).map (a ++ ·) := rfl
/-! slots -/
@[simp] theorem vw_0 (bs : List Bool) : vw bs [] = [] := by unfold vw; rfl
def vw1 (b : Bool) : Sl → Option PV
  | .no => none
  | .fz v => some v
  | .own xs => if b = true then some (.lst xs) else none
@[simp] theorem vw1_n (b) : vw1 b .no = none := rfl
@[simp] theorem vw1_f (b v) : vw1 b (.fz v) = some v := rfl
@[simp] theorem vw1_t (xs) : vw1 true (.own xs) = some (.lst xs) := rfl
@[simp] theorem vw1_o (xs) : vw1 false (.own xs) = none := rfl
@[simp] theorem vw_cons (bs : List Bool) (s : Sl) : vw bs (s :: r) = vw1 (bs.headD false) s :: vw bs.tail r := by cases s <;> rw [vw] <;> rfl
@[simp] theorem fr_0 (bs : List Bool) : fr bs [] = [] := by unfold fr; rfl
def fr1 (b : Bool) : Sl → Sl
  | .own xs => if b = true then .fz (.lst xs) else .own xs
  | s => s
@[simp] theorem fr1_n (b) : fr1 b .no = .no := rfl
@[simp] theorem fr1_f (b v) : fr1 b (.fz v) = .fz v := rfl
@[simp] theorem fr1_t (xs) : fr1 true (.own xs) = .fz (.lst xs) := rfl
@[simp] theorem fr1_o (s) : fr1 false s = s := by cases s <;> rfl
@[simp] theorem fr_cons (bs : List Bool) (s : Sl) : fr bs (s :: r) = fr1 (bs.headD false) s :: fr bs.tail r := by cases s <;> rw [fr] <;> rfl
@[simp] theorem settle_t (bs : List Bool) : settle bs true r = r := rfl
@[simp] theorem settle_f (bs : List Bool) : settle bs false r = fr bs r := rfl
@[simp] theorem settle_nil (b : Bool) : settle [] b r = r := by
  have : fr [] r = r := by
    induction r with
    | nil => simp
    | cons s r ih => simp [ih]
  unfold settle
  rw [this]
  split <;> rfl
@[simp] theorem startE_S (n : Nat) (us : List PV) : startE n us = us.map Sl.fz ++ List.replicate (n - us.length) Sl.no := rfl
@[simp] theorem sPass_S : sPass r = .next r := rfl
@[simp] theorem sBreak_S : sBreak r = .brk r := rfl
@[simp] theorem sCont_S : sCont r = .cont r := rfl
@[simp] theorem sRetN_S : sRetN r = .ret .non := rfl
def seqK (t : Env → Out) : Out → Out
  | .next ρ => t ρ
  | o => o
@[simp] theorem seqK_n (t r) : seqK t (.next r) = t r := rfl
@[simp] theorem seqK_b (t r) : seqK t (.brk r) = .brk r := rfl
@[simp] theorem seqK_c (t r) : seqK t (.cont r) = .cont r := rfl
@[simp] theorem seqK_r (t v) : seqK t (.ret v) = .ret v := rfl
@[simp] theorem seqK_e (t c fs r) : seqK t (.exc c fs r) = .exc c fs r := rfl
@[simp] theorem seqK_s (t) : seqK t .stuck = .stuck := rfl
@[simp] theorem sSeq_S (s t : Env → Out) : sSeq s t r = seqK t (s r) := by unfold sSeq seqK; cases s r <;> rfl
def onK (nl : α → Bool) (bs : List Bool) (r : Env) (k : α → Env → Out) : R α → Out
  | .ok v => k v (settle bs (nl v) r)
  | .exc c fs => .exc c fs (fr bs r)
  | .stuck => .stuck
@[simp] theorem onK_o (nl : α → Bool) (bs r k) (v : α) : onK nl bs r k (.ok v) = k v (settle bs (nl v) r) := rfl
@[simp] theorem onK_e (nl : α → Bool) (bs r k c fs) : onK nl bs r k (.exc c fs) = .exc c fs (fr bs r) := rfl
@[simp] theorem onK_s (nl : α → Bool) (bs r k) : onK nl bs r k .stuck = .stuck := rfl
@[simp] theorem onE_S (nl : α → Bool) (f : Ev → R α) (bs : List Bool) (k : α → Env → Out) : onE nl f bs r k = onK nl bs r k (f (vw bs r)) := by unfold onE onK; cases f (vw bs r) <;> rfl
@[simp] theorem onO_S (f : Ev → R (List PV)) (bs : List Bool) (k : List PV → Env → Out) : onO f bs r k = onK PV.nols bs r k (f (vw bs r)) := by unfold onO onK; cases f (vw bs r) <;> rfl
@[simp] theorem sExpr_S (bs f) : sExpr bs f r = onE PV.nol f bs r fun _ ρ' => .next ρ' := rfl
@[simp] theorem sRet_S (bs f) : sRet bs f r = onE PV.nol f bs r fun v _ => .ret v := rfl
@[simp] theorem sSet_S (i bs f) : sSet i bs f r = onE PV.nol f bs r fun v ρ' => .next (ρ'.set i (.fz v)) := rfl
def tgK (r : Env) : Option As → Out
  | some as => .next (setS as r)
  | none => .stuck
@[simp] theorem tgK_s (r as) : tgK r (some as) = .next (setS as r) := rfl
@[simp] theorem sTg_S (t bs f) : sTg t bs f r = onE PV.nol f bs r fun v ρ' => tgK ρ' (t v) := by unfold sTg; congr <;> (funext v ρ'; cases t v <;> rfl)
@[simp] theorem sPar_S (is bs fs) : sPar is bs fs r = onE PV.nols (evs fs) bs r fun vs ρ' => .next (setS (is.zip vs) ρ') := rfl
@[simp] theorem sOwn_S (i bs f) : sOwn i bs f r = onO f bs r fun xs ρ' => .next (ρ'.set i (.own xs)) := rfl
def ownK (k : List PV → Out) : Option (List PV) → Out
  | some xs => k xs
  | none => .stuck
@[simp] theorem ownK_s (k xs) : ownK k (some xs) = k xs := rfl
@[simp] theorem sMet_S (i g bs fs) : sMet i g bs fs r = ownK (fun _ => onE PV.nols (evs fs) bs r fun vs ρ' => ownK (fun xs => ownK (fun ys => .next (ρ'.set i (.own ys))) (g xs vs)) (getO ρ' i)) (getO r i) := by
  unfold sMet
  cases getO r i with
  | none => rfl
  | some _ =>
    rw [ownK_s]
    refine congrArg (fun k => onE PV.nols (evs fs) bs r k) ?_
    funext vs ρ'
    cases getO ρ' i with
    | none => rfl
    | some xs =>
      rw [ownK_s]
      show (match g xs vs with | none => Out.stuck | some ys => Out.next (List.set ρ' i (Sl.own ys))) = _
      cases g xs vs <;> rfl
def putK (i : Nat) (v : PV) (ρ2 : Env) : Option (List PV) → PV → Out
  | some xs, .int z => ownK (fun _ => ownK (fun ys => .next (ρ2.set i (.own ys))) ((ixN xs.length z).map fun j => xs.set j v)) (some [])
  | _, _ => .stuck
@[simp] theorem putK_s (i v ρ2 xs z) : putK i v ρ2 (some xs) (.int z) = ownK (fun ys => .next (ρ2.set i (.own ys))) ((ixN xs.length z).map fun j => xs.set j v) := rfl
@[simp] theorem sPut_S (i bs fv fi) : sPut i bs fv fi r = onE PV.nol fv bs r fun v ρ1 => ownK (fun _ => onE PV.nol fi bs ρ1 fun k ρ2 => putK i v ρ2 (getO ρ2 i) k) (getO ρ1 i) := by
  unfold sPut
  refine congrArg (fun k => onE PV.nol fv bs r k) ?_
  funext v ρ1
  cases getO ρ1 i with
  | none => rfl
  | some _ =>
    rw [ownK_s]
    refine congrArg (fun k => onE PV.nol fi bs ρ1 k) ?_
    funext k ρ2
    cases getO ρ2 i with
    | none => rfl
    | some xs =>
      cases k with
      | int z =>
        show _ = putK i v ρ2 (some xs) (.int z)
        rw [putK_s]
        show (match ixN xs.length z with | some j => Out.next (ρ2.set i (.own (xs.set j v))) | none => Out.stuck) = _
        cases ixN xs.length z <;> rfl
      | _ => rfl
def augK (g : PV → PV → Option PV) (f : Ex) (bs : List Bool) (i : Nat) (r : Env) : Option Sl → Out
  | some (.fz x) => onE PV.nol f bs r fun y ρ' => ownK (fun z => .next (ρ'.set i (.fz (z.headD .non)))) ((g x y).map fun z => [z])
  | _ => .stuck
@[simp] theorem augK_s (g f bs i r x) : augK g f bs i r (some (.fz x)) = onE PV.nol f bs r fun y ρ' => ownK (fun z => .next (ρ'.set i (.fz (z.headD .non)))) ((g x y).map fun z => [z]) := rfl
@[simp] theorem sAug_S (i g bs f) : sAug i g bs f r = augK g f bs i r r[i]? := by
  unfold sAug
  cases r[i]? with
  | none => rfl
  | some s =>
    cases s with
    | fz x =>
      rw [augK_s]
      refine congrArg (fun k => onE PV.nol f bs r k) ?_
      funext y ρ'
      cases g x y <;> rfl
    | _ => rfl
@[simp] theorem sIf_S (bs c s t) : sIf bs c s t r = onE (fun _ => true) c bs r fun b ρ' => if b = true then s ρ' else t ρ' := rfl
@[simp] theorem sFor_S (nl t bs it s) : sFor nl t bs it s r = onE (fun _ => nl) it bs r fun xs ρ' => forL t s xs ρ' := rfl
def raiK (c : Nat) (r : Env) : Option (List (Str × PV)) → Out
  | some f => .exc c f r
  | none => .stuck
@[simp] theorem raiK_s (c r f) : raiK c r (some f) = .exc c f r := rfl
@[simp] theorem sRaise_S (c mk bs fs) : sRaise c mk bs fs r = onE PV.nols (evs fs) bs r fun us ρ' => raiK c ρ' (mk us) := by
  unfold sRaise; congr <;> (funext us ρ'; cases mk us <;> rfl)
def tryK (hs : List Hd) : Out → Out
  | .exc c fs ρ' => tryH c fs ρ' hs
  | o => o
@[simp] theorem tryK_e (hs c fs r) : tryK hs (.exc c fs r) = tryH c fs r hs := rfl
@[simp] theorem tryK_n (hs r) : tryK hs (.next r) = .next r := rfl
@[simp] theorem tryK_r (hs v) : tryK hs (.ret v) = .ret v := rfl
@[simp] theorem sTry_S (s hs) : sTry s hs r = tryK hs (s r) := by unfold sTry tryK; cases s r <;> rfl
@[simp] theorem getO_0 (xs : List PV) : getO (.own xs :: r) 0 = some xs := rfl
@[simp] theorem getO_S (s : Sl) (n : Nat) : getO (s :: r) (n + 1) = getO r n := by cases s <;> rfl
@[simp] theorem outR_n : outR (.next r) = .ok .non := rfl
@[simp] theorem outR_r (v : PV) : outR (.ret v) = .ok v := rfl
@[simp] theorem outR_e (c fs) : outR (.exc c fs r) = .exc c fs := rfl
@[simp] theorem outR_s : outR .stuck = .stuck := rfl
@[simp] theorem forL_0 (t s) : forL t s [] r = .next r := rfl
end
/-! values -/
@[simp] theorem nol_non : PV.nol .non = true := by simp [PV.nol]
@[simp] theorem nol_bl (b) : PV.nol (.bl b) = true := by simp [PV.nol]
@[simp] theorem nol_int (b) : PV.nol (.int b) = true := by simp [PV.nol]
@[simp] theorem nol_str (b) : PV.nol (.str b) = true := by simp [PV.nol]
@[simp] theorem nol_lst (b) : PV.nol (.lst b) = false := by simp [PV.nol]
@[simp] theorem nol_src (b) : PV.nol (.src b) = false := by simp [PV.nol]
@[simp] theorem nol_tup (b) : PV.nol (.tup b) = PV.nols b := by simp [PV.nol]
@[simp] theorem nols_0 : PV.nols [] = true := by simp [PV.nols]
@[simp] theorem nols_S (x xs) : PV.nols (x :: xs) = (PV.nol x && PV.nols xs) := by simp [PV.nols]
@[simp] theorem addP_i (i j) : addP (.int i) (.int j) = some (.int (i + j)) := rfl
@[simp] theorem addP_l (i j) : addP (.lst i) (.lst j) = if i.length + j.length ≤ sizeLine then some (.lst (i ++ j)) else none := rfl
@[simp] theorem addP_s (i j) : addP (.str i) (.str j) = if i.length + j.length ≤ sizeLine then some (.str (i ++ j)) else none := rfl
@[simp] theorem addIP_i (i j) : addIP (.int i) (.int j) = some (.int (i + j)) := rfl
@[simp] theorem subP_i (i j) : subP (.int i) (.int j) = some (.int (i - j)) := rfl
@[simp] theorem mulP_i (i j) : mulP (.int i) (.int j) = if mulOk i j = true then some (.int (i * j)) else none := rfl
@[simp] theorem mulP_l (xs k) : mulP (.lst xs) (.int k) = if -(2 ^ 63) ≤ k ∧ k < 2 ^ 63 ∧ xs.length * k.toNat ≤ sizeLine then some (.lst (List.replicate k.toNat xs).flatten) else none := rfl
@[simp] theorem modP_i (i j) : modP (.int i) (.int j) = if 0 < j then some (.int (i % j)) else none := rfl
@[simp] theorem divP_i (i j) : divP (.int i) (.int j) = if 0 < j ∧ j < bigI then some (.int (i / j)) else if j < 0 ∧ -bigI < j then some (.int ((-i) / (-j))) else none := rfl
@[simp] theorem negP_i (i) : negP (.int i) = some (.int (-i)) := rfl
@[simp] theorem ltP_i (i j) : ltP (.int i) (.int j) = some (.bl (decide (i < j))) := rfl
@[simp] theorem leP_i (i j) : leP (.int i) (.int j) = some (.bl (decide (i ≤ j))) := rfl
@[simp] theorem gtP_i (i j) : gtP (.int i) (.int j) = some (.bl (decide (j < i))) := rfl
@[simp] theorem geP_i (i j) : geP (.int i) (.int j) = some (.bl (decide (j ≤ i))) := rfl
@[simp] theorem eqB_i (i j) : eqB (.int i) (.int j) = some (decide (i = j)) := rfl
@[simp] theorem eqB_s (i j) : eqB (.str i) (.str j) = some (decide (i = j)) := rfl
@[simp] theorem eqB_b (i j) : eqB (.bl i) (.bl j) = some (decide (i = j)) := rfl
@[simp] theorem eqB_n : eqB .non .non = some true := rfl
@[simp] theorem eqP_S (x y) : eqP x y = (eqB x y).map .bl := rfl
@[simp] theorem neP_S (x y) : neP x y = (eqB x y).map fun b => .bl (!b) := rfl
@[simp] theorem inP_S (x y) : inP x y = (inB x y).map .bl := rfl
@[simp] theorem ninP_S (x y) : ninP x y = (inB x y).map fun b => .bl (!b) := rfl
@[simp] theorem isP_n : isP .non .non = some (.bl true) := rfl
@[simp] theorem isP_i (i) : isP (.int i) .non = some (.bl false) := rfl
@[simp] theorem isP_t (i) : isP (.tup i) .non = some (.bl false) := rfl
@[simp] theorem isP_l (i) : isP (.lst i) .non = some (.bl false) := rfl
@[simp] theorem isP_b (a b) : isP (.bl a) (.bl b) = some (.bl (decide (a = b))) := rfl
@[simp] theorem isntP_n : isntP .non .non = some (.bl false) := rfl
@[simp] theorem isntP_i (i) : isntP (.int i) .non = some (.bl true) := rfl
@[simp] theorem isntP_t (i) : isntP (.tup i) .non = some (.bl true) := rfl
@[simp] theorem isntP_l (i) : isntP (.lst i) .non = some (.bl true) := rfl
@[simp] theorem isntP_b (a b) : isntP (.bl a) (.bl b) = some (.bl (!decide (a = b))) := rfl
@[simp] theorem ixP_l (xs i) : ixP (.lst xs) (.int i) = atI xs i := rfl
@[simp] theorem ixP_r (xs i) : ixP (.src xs) (.int i) = atI xs i := rfl
@[simp] theorem ixP_t (xs i) : ixP (.tup xs) (.int i) = atI xs i := rfl
@[simp] theorem lenP_l (xs) : lenP [.lst xs] = some (.int xs.length) := rfl
@[simp] theorem lenP_r (xs) : lenP [.src xs] = some (.int xs.length) := rfl
@[simp] theorem lenP_t (xs) : lenP [.tup xs] = some (.int xs.length) := rfl
@[simp] theorem absP_i (i) : absP [.int i] = some (.int (if i < 0 then -i else i)) := rfl
@[simp] theorem intP_i (i) : intP [.int i] = some (.int i) := rfl
@[simp] theorem intP_b (b) : intP [.bl b] = some (.int (if b then 1 else 0)) := rfl
@[simp] theorem minP_i (i j) : minP [.int i, .int j] = some (.int (if j < i then j else i)) := rfl
@[simp] theorem maxP_i (i j) : maxP [.int i, .int j] = some (.int (if j > i then j else i)) := rfl
@[simp] theorem sumP_l (xs) : sumP [.lst xs] = (intsP xs).map fun ns => .int ns.sum := rfl
@[simp] theorem listP_l (xs) : listP [.lst xs] = some (.lst xs) := rfl
@[simp] theorem listP_r (xs) : listP [.src xs] = some (.lst xs) := rfl
@[simp] theorem listP_t (xs) : listP [.tup xs] = some (.lst xs) := rfl
@[simp] theorem slP_l (xs lo hi) : slP (.lst xs) lo hi = some (.lst (cutP xs lo hi)) := rfl
@[simp] theorem slP_t (xs lo hi) : slP (.tup xs) lo hi = some (.tup (cutP xs lo hi)) := rfl
@[simp] theorem itemsP_l (xs) : itemsP (.lst xs) = .ok xs := rfl
@[simp] theorem itemsP_t (xs) : itemsP (.tup xs) = .ok xs := rfl
@[simp] theorem truV_b (b) : truV (.bl b) = some b := rfl
@[simp] theorem truV_i (i) : truV (.int i) = some (i != 0) := rfl
@[simp] theorem mApp_S (xs v) : mApp xs [v] = if xs.length < sizeLine then some (xs ++ [v]) else none := rfl
@[simp] theorem isa_S (x n) : isaP [x, .ty n] = (tyName x).bind fun t => (isaT t n).map .bl := rfl
@[simp] theorem tyName_i (i) : tyName (.int i) = some "int" := rfl
@[simp] theorem tyName_t (i) : tyName (.tup i) = some "tuple" := rfl
@[simp] theorem tyName_l (i) : tyName (.lst i) = some "list" := rfl
@[simp] theorem tyName_b (i) : tyName (.bl i) = some "bool" := rfl
@[simp] theorem tyName_s (i) : tyName (.str i) = some "str" := rfl
@[simp] theorem tyName_n : tyName .non = some "NoneType" := rfl
@[simp] theorem isaT_1 : isaT "int" "int" = some true := by decide
@[simp] theorem isaT_2 : isaT "bool" "int" = some true := by decide
@[simp] theorem isaT_3 : isaT "tuple" "tuple" = some true := by decide
@[simp] theorem isaT_4 : isaT "int" "tuple" = some false := by decide
@[simp] theorem isaT_5 : isaT "int" "bool" = some false := by decide
@[simp] theorem isaT_6 : isaT "bool" "bool" = some true := by decide
@[simp] theorem isaT_7 : isaT "NoneType" "bool" = some false := by decide
@[simp] theorem isaT_8 : isaT "NoneType" "int" = some false := by decide
@[simp] theorem isaT_9 : isaT "str" "int" = some false := by decide
theorem szl : sizeLine = 16777216 := sizeLine_eq
/-! indexing -/
theorem atI_nat' {α : Type} {xs : List α} {i : Nat} (h : i < xs.length) : atI xs (i : Int) = some xs[i] := by
  rw [atI_nat (j := i) (List.getElem?_eq_getElem h)]
theorem atI_get {α : Type} {xs : List α} {i : Int} (h0 : 0 ≤ i) (h : i.toNat < xs.length) : atI xs i = some xs[i.toNat] := by
  obtain ⟨n, rfl⟩ := Int.eq_ofNat_of_zero_le h0
  exact atI_nat' (by simpa using h)
theorem atI_neg1 {α : Type} {xs : List α} (h : xs ≠ []) : atI xs (-1) = xs.getLast? := by
  have hl : 0 < xs.length := List.length_pos_iff.mpr h
  unfold atI ixN
  rw [List.getLast?_eq_getElem?, if_neg (by decide), if_pos (by omega)]
  show xs[(-1 + (xs.length : Int)).toNat]? = _
  congr 1
  omega
/-! loops -/
theorem forL_by {t : Tg} {s : Env → Out} {Q : Out → Prop} : ∀ {vs : List PV} {r : Env} (I : Nat → Env → Prop), I 0 r →
    (∀ i v r, vs[i]? = some v → I i r → ∃ as, t v = some as ∧ ((∃ r', (s (setS as r) = .next r' ∨ s (setS as r) = .cont r') ∧ I (i + 1) r') ∨ (∃ r', s (setS as r) = .brk r' ∧ Q (.next r')) ∨ (∃ v, s (setS as r) = .ret v ∧ Q (.ret v)) ∨ ∃ c fs r', s (setS as r) = .exc c fs r' ∧ Q (.exc c fs r'))) →
    (∀ r, I vs.length r → Q (.next r)) → Q (forL t s vs r)
  | [], r, I, h0, _, fin => fin r h0
  | v :: vs, r, I, h0, step, fin => by
    obtain ⟨as, e1, h⟩ := step 0 v r rfl h0
    unfold forL
    rw [e1]
    have rest : ∀ r', I 1 r' → Q (forL t s vs r') := fun r' h1 => forL_by (fun i => I (i + 1)) h1 (fun i v r hv hi => step (i + 1) v r (by simpa using hv) hi) (fun r hr => fin r (by simpa using hr))
    rcases h with ⟨r', e2 | e2, h1⟩ | ⟨r', e2, q⟩ | ⟨v, e2, q⟩ | ⟨c, fs, r', e2, q⟩
    · simp only [e2]; exact rest r' h1
    · simp only [e2]; exact rest r' h1
    · simp only [e2]; exact q
    · simp only [e2]; exact q
    · simp only [e2]; exact q
@[simp] theorem rangeP_len (lo : Int) (n : Nat) : (rangeP lo n).length = n := by simp [rangeP]
theorem rangeP_get {lo : Int} {n i : Nat} {v : PV} (h : (rangeP lo n)[i]? = some v) : i < n ∧ v = .int (lo + (i : Int)) := by
  unfold rangeP at h
  rw [List.getElem?_map] at h
  have hi : i < n := by
    by_cases hi : i < n
    · exact hi
    · rw [List.getElem?_eq_none (by simpa using hi)] at h; cases h
  rw [List.getElem?_range hi] at h
  cases h
  exact ⟨hi, rfl⟩
theorem lcL_map {γ : Type} {t : Tg} {e : Ex} {ρ : Ev} (enc h : γ → PV) : ∀ (xs : List γ), (∀ x ∈ xs, ∃ as, t (enc x) = some as ∧ e (setE as ρ) = .ok (h x)) → lcL t cYes e ρ (xs.map enc) = .ok (xs.map h)
  | [], _ => rfl
  | x :: xs, H => by
    obtain ⟨as, e1, e2⟩ := H x List.mem_cons_self
    have ih := lcL_map enc h xs fun y hy => H y (List.mem_cons_of_mem _ hy)
    simp only [List.map_cons, lcL, e1, cYes_S, e2, ih]
theorem lcL_filter {γ : Type} {t : Tg} {c : Ev → R Bool} {e : Ex} {ρ : Ev} (enc h : γ → PV) (p : γ → Bool) : ∀ (xs : List γ), (∀ x ∈ xs, ∃ as, t (enc x) = some as ∧ c (setE as ρ) = .ok (p x) ∧ (p x = true → e (setE as ρ) = .ok (h x))) → lcL t c e ρ (xs.map enc) = .ok ((xs.filter p).map h)
  | [], _ => rfl
  | x :: xs, H => by
    obtain ⟨as, e1, e2, e3⟩ := H x List.mem_cons_self
    have ih := lcL_filter enc h p xs fun y hy => H y (List.mem_cons_of_mem _ hy)
    cases hp : p x with
    | true => simp only [List.map_cons, lcL, e1, e2, hp, e3 hp, ih, List.filter_cons, if_true]
    | false => simp only [List.map_cons, lcL, e1, e2, hp, ih, List.filter_cons]; rfl
@[simp] theorem intsP_map (ns : List Int) : intsP (ns.map .int) = some ns := by
  induction ns with
  | nil => rfl
  | cons n ns ih => simp [intsP, ih]
@[simp] theorem mulOk_r {i j : Int} (h : -18446744073709551616 < j ∧ j < 18446744073709551616) : mulOk i j = true := by
  unfold mulOk
  rw [show ((2 : Int) ^ 64) = 18446744073709551616 from by decide, decide_eq_true h.1, decide_eq_true h.2]
  simp
theorem mulOk_l {i j : Int} (h : -18446744073709551616 < i ∧ i < 18446744073709551616) : mulOk i j = true := by
  unfold mulOk
  rw [show ((2 : Int) ^ 64) = 18446744073709551616 from by decide, decide_eq_true h.1, decide_eq_true h.2]
  simp
theorem mulOk_b {i j : Int} (h : -bigI < i ∧ i < bigI) (h' : -bigI < j ∧ j < bigI) : mulOk i j = true := by
  unfold mulOk
  rw [decide_eq_true h.1, decide_eq_true h.2, decide_eq_true h'.1, decide_eq_true h'.2]
  simp
theorem bigI_of {j : Int} (h : j < 18446744073709551616) : j < bigI := lt_bigI (by rw [show ((2 : Int) ^ 64) = 18446744073709551616 from by decide]; exact h)
end VL
namespace VL
open PySem PySem.Spec PyProof.Rows L2
/-! ### == of values that are lists and tuples -/
/-- a text without odd signs -/
abbrev okS (z : Str) : Bool := PyData.canLay0 (.str z)
def PV.tm (n : Nat) (x : PV) : Bool := match x.data with
  | some d => PyData.canLay0 d && decide (d.depth ≤ n)
  | none => false
def PV.tms (n : Nat) (x : List PV) : Bool := match PV.datas x with
  | some d => PyData.canLayAll0 d && decide (PyData.depthAll d ≤ n)
  | none => false
def PV.eqv (x y : PV) : Bool := match x.data, y.data with
  | some d, some e => PyData.eqv d e
  | _, _ => false
def PV.eqvs (x y : List PV) : Bool := match PV.datas x, PV.datas y with
  | some d, some e => PyData.eqvAll d e
  | _, _ => false
@[simp] theorem tm_i (n i) : PV.tm n (.int i) = true := by simp [PV.tm, PV.data, PyData.canLay0, PyData.depth]
@[simp] theorem tm_b (n i) : PV.tm n (.bl i) = true := by simp [PV.tm, PV.data, PyData.canLay0, PyData.depth]
@[simp] theorem tm_n (n) : PV.tm n .non = true := by simp [PV.tm, PV.data, PyData.canLay0, PyData.depth]
@[simp] theorem tm_s (n i) : PV.tm n (.str i) = okS i := by simp [PV.tm, PV.data, PyData.depth]
@[simp] theorem tm_t (n xs) : PV.tm (n + 1) (.tup xs) = PV.tms n xs := by
  unfold PV.tm PV.tms
  simp only [PV.data]
  cases PV.datas xs with
  | none => rfl
  | some d => simp [PyData.canLay0, PyData.depth]
@[simp] theorem tm_l (n xs) : PV.tm (n + 1) (.lst xs) = PV.tms n xs := by
  unfold PV.tm PV.tms
  simp only [PV.data]
  cases PV.datas xs with
  | none => rfl
  | some d => simp [PyData.canLay0, PyData.depth]
@[simp] theorem tms_0 (n) : PV.tms n [] = true := by simp [PV.tms, PV.datas, PyData.canLayAll0, PyData.depthAll]
@[simp] theorem tms_S (n x xs) : PV.tms n (x :: xs) = (PV.tm n x && PV.tms n xs) := by
  unfold PV.tm PV.tms
  simp only [PV.datas]
  cases PV.data x with
  | none => simp
  | some d =>
    cases PV.datas xs with
    | none => simp
    | some ds =>
      simp only [Option.bind_some, Option.map_some, PyData.canLayAll0, PyData.depthAll]
      rw [Bool.eq_iff_iff]
      simp only [Bool.and_eq_true, decide_eq_true_eq, Nat.max_le]
      constructor
      · rintro ⟨⟨a, b⟩, c, d⟩; exact ⟨⟨a, c⟩, b, d⟩
      · rintro ⟨⟨a, b⟩, c, d⟩; exact ⟨⟨a, c⟩, b, d⟩
theorem tms_iff {n : Nat} : ∀ {xs : List PV}, PV.tms n xs = true ↔ ∀ x ∈ xs, PV.tm n x = true
  | [] => by simp
  | x :: xs => by simp [tms_iff]
@[simp] theorem eqv_ii (i j) : PV.eqv (.int i) (.int j) = decide (i = j) := by
  show (i == j) = decide (i = j)
  rfl
@[simp] theorem eqv_ss (i j) : PV.eqv (.str i) (.str j) = decide (i = j) := by
  show PyData.eqv (.str i) (.str j) = _
  simp only [PyData.eqv]
  rfl
@[simp] theorem eqv_bb (i j) : PV.eqv (.bl i) (.bl j) = decide (i = j) := by cases i <;> cases j <;> rfl
@[simp] theorem eqv_nn : PV.eqv .non .non = true := rfl
@[simp] theorem eqv_ni (i) : PV.eqv .non (.int i) = false := rfl
@[simp] theorem eqv_in (i) : PV.eqv (.int i) .non = false := rfl
@[simp] theorem eqv_nt (xs) : PV.eqv .non (.tup xs) = false := by
  unfold PV.eqv; simp only [PV.data]; cases PV.datas xs <;> simp [PyData.eqv]
@[simp] theorem eqv_tn (xs) : PV.eqv (.tup xs) .non = false := by
  unfold PV.eqv; simp only [PV.data]; cases PV.datas xs <;> simp [PyData.eqv]
@[simp] theorem eqv_nl (xs) : PV.eqv .non (.lst xs) = false := by
  unfold PV.eqv; simp only [PV.data]; cases PV.datas xs <;> simp [PyData.eqv]
@[simp] theorem eqv_ln (xs) : PV.eqv (.lst xs) .non = false := by
  unfold PV.eqv; simp only [PV.data]; cases PV.datas xs <;> simp [PyData.eqv]
@[simp] theorem eqv_ns (xs) : PV.eqv .non (.str xs) = false := rfl
@[simp] theorem eqv_sn (xs) : PV.eqv (.str xs) .non = false := rfl
@[simp] theorem eqv_tt (xs ys) : PV.eqv (.tup xs) (.tup ys) = PV.eqvs xs ys := by
  unfold PV.eqv PV.eqvs; simp only [PV.data]; cases PV.datas xs <;> cases PV.datas ys <;> simp [PyData.eqv]
@[simp] theorem eqv_ll (xs ys) : PV.eqv (.lst xs) (.lst ys) = PV.eqvs xs ys := by
  unfold PV.eqv PV.eqvs; simp only [PV.data]; cases PV.datas xs <;> cases PV.datas ys <;> simp [PyData.eqv]
@[simp] theorem eqvs_00 : PV.eqvs [] [] = true := by simp [PV.eqvs, PV.datas, PyData.eqvAll]
@[simp] theorem eqvs_0S (x xs) : PV.eqvs [] (x :: xs) = false := by
  unfold PV.eqvs; simp only [PV.datas]; cases PV.data x <;> cases PV.datas xs <;> simp [PyData.eqvAll]
@[simp] theorem eqvs_S0 (x xs) : PV.eqvs (x :: xs) [] = false := by
  unfold PV.eqvs; simp only [PV.datas]; cases PV.data x <;> cases PV.datas xs <;> simp [PyData.eqvAll]
theorem eqvs_SS {x xs y ys} {n : Nat} (hx : PV.tms n (x :: xs) = true) (hy : PV.tms n (y :: ys) = true) : PV.eqvs (x :: xs) (y :: ys) = (PV.eqv x y && PV.eqvs xs ys) := by
  unfold PV.tms at hx hy
  unfold PV.eqvs PV.eqv
  simp only [PV.datas] at *
  cases e1 : PV.data x <;> cases e2 : PV.datas xs <;> cases e3 : PV.data y <;> cases e4 : PV.datas ys <;> simp_all [PyData.eqvAll]
theorem eqB_tm {x y : PV} (hx : PV.tm 64 x = true) (hy : PV.tm 64 y = true) : eqB x y = some (PV.eqv x y) := by
  have gen : (match x.data, y.data with
    | some d, some e => if SeqAt.shaped d = true ∧ SeqAt.shaped e = true then some (PyData.eqv d e) else none
    | _, _ => none) = some (PV.eqv x y) := by
    unfold PV.tm at hx hy
    unfold PV.eqv
    cases e1 : x.data with
    | none => rw [e1] at hx; cases hx
    | some d =>
      cases e2 : y.data with
      | none => rw [e2] at hy; cases hy
      | some e =>
        rw [e1] at hx
        rw [e2] at hy
        exact if_pos ⟨hx, hy⟩
  cases x <;> cases y <;> first | exact gen | simp
theorem eqvs_len : ∀ {xs ys : List PV}, PV.eqvs xs ys = true → xs.length = ys.length
  | [], [], _ => rfl
  | [], _ :: _, h => by simp at h
  | _ :: _, [], h => by simp at h
  | x :: xs, y :: ys, h => by
    unfold PV.eqvs at h
    simp only [PV.datas] at h
    cases e1 : PV.data x <;> cases e2 : PV.datas xs <;> cases e3 : PV.data y <;> cases e4 : PV.datas ys <;> simp [e1, e2, e3, e4] at h
    rename_i a b c d
    simp only [PyData.eqvAll, Bool.and_eq_true] at h
    have := eqvs_len (xs := xs) (ys := ys) (by unfold PV.eqvs; rw [e2, e4]; exact h.2)
    simp [this]
/-- lists of values of one make -/
theorem eqvs_map {γ : Type} [DecidableEq γ] {f : γ → PV} {n : Nat} (hf : ∀ x, PV.tm n (f x) = true → True) (ht : ∀ a b, PV.eqv (f a) (f b) = decide (a = b)) : ∀ {xs ys : List γ}, (∀ x ∈ xs, PV.tm n (f x) = true) → (∀ x ∈ ys, PV.tm n (f x) = true) → PV.eqvs (xs.map f) (ys.map f) = decide (xs = ys)
  | [], [], _, _ => by simp
  | [], y :: ys, _, _ => by simp
  | x :: xs, [], _, _ => by simp
  | x :: xs, y :: ys, h1, h2 => by
    have t1 : PV.tms n ((x :: xs).map f) = true := tms_iff.mpr fun z hz => by
      obtain ⟨a, ha, rfl⟩ := List.mem_map.mp hz
      exact h1 a ha
    have t2 : PV.tms n ((y :: ys).map f) = true := tms_iff.mpr fun z hz => by
      obtain ⟨a, ha, rfl⟩ := List.mem_map.mp hz
      exact h2 a ha
    rw [List.map_cons, List.map_cons, eqvs_SS t1 t2, ht, eqvs_map hf ht (fun a ha => h1 a (List.mem_cons_of_mem _ ha)) (fun a ha => h2 a (List.mem_cons_of_mem _ ha))]
    rw [Bool.eq_iff_iff]
    simp
end VL
namespace PF
open PySem PySem.Spec PyProof.Rows L2 VL
def c_MOST_PLACE : PV := .int 100000
def c_SIGHTS : PV := .int 3
def sp_OutOfRange : Fsp := [("label", .c "OutOfRange"), ("value", .a 0)]
def sp_BadWay : Fsp := [("label", .c "BadWay"), ("number", .a 0)]
def sp_Unequal : Fsp := [("label", .c "Unequal"), ("value", .a 0)]
noncomputable def b_gcd_of_0 (F : Nat → List PV → R PV) : Ev → R Bool := eTst (e2 gtP (eVar 1) (eC (.int 0)))
noncomputable def b_gcd_of_1 (F : Nat → List PV → R PV) : VL.Env → Out := sPar [0, 1] [] [eVar 1, e2 modP (eVar 0) (eVar 1)]
/-- gcd_of (330): 0 a, 1 b -/
noncomputable def b_gcd_of (F : Nat → List PV → R PV) : VL.Env → Out := sSeq (sWhile [] (b_gcd_of_0 F) (b_gcd_of_1 F)) (sRet [] (eVar 0))
/-- lowest (453): 0 top, 1 bottom, 2 common -/
noncomputable def b_lowest (F : Nat → List PV → R PV) : VL.Env → Out := sSeq (sSet 2 [] (eArgs (gN 2 (F 330)) [eCB absP [eVar 0], eVar 1])) (sRet [] (eArgs gTupV [e2 divP (eVar 0) (eVar 2), e2 divP (eVar 1) (eVar 2)]))
noncomputable def b_is_way_0 (F : Nat → List PV → R PV) : Ex := eCB isaP [eVar 1, eC (.ty "int")]
/-- is_way (382): 0 way, 1 part -/
noncomputable def b_is_way (F : Nat → List PV → R PV) : VL.Env → Out := sSeq (sIf [] (cOr (cNot (eTru (eCB isaP [eVar 0, eC (.ty "tuple")]))) (cOr (eTst (e2 neP (eCB lenP [eVar 0]) (eC (.int 2)))) (eTst (e2 inP (eC (.bl false)) (asLst (eLc [1] (tN 1) (iSeq (eVar 0)) (cYes) (b_is_way_0 F))))))) (sRet [] (eC (.bl false))) (sPass)) (sRet [] (e2 neP (eVar 0) (eArgs gTupV [eC (.int 0), eC (.int 0)])))
noncomputable def b_check_ways_0 (F : Nat → List PV → R PV) : VL.Env → Out := sIf [] (cNot (eTru (eArgs (gN 1 (F 382)) [e2 ixP (eVar 0) (eVar 2)]))) (sRaise 8 (mkFs 1 sp_BadWay) [] [e2 addP (eVar 1) (eVar 2)]) (sPass)
/-- check_ways (261): 0 ways, 1 first, 2 at -/
noncomputable def b_check_ways (F : Nat → List PV → R PV) : VL.Env → Out := sFor true (tN 2) [] (iR1 (eCB lenP [eVar 0])) (b_check_ways_0 F)
noncomputable def b_check_place_0 (F : Nat → List PV → R PV) : VL.Env → Out := sIf [] (cNot (eTst (eChain leP leP (e1 negP (eC c_MOST_PLACE)) (eVar 1) (eC c_MOST_PLACE)))) (sRaise 17 (mkFs 1 sp_OutOfRange) [] [eVar 1]) (sPass)
/-- check_place (242): 0 place, 1 part -/
noncomputable def b_check_place (F : Nat → List PV → R PV) : VL.Env → Out := sFor false (tN 1) [] (iSeq (eVar 0)) (b_check_place_0 F)
/-- cross (285): 0 a, 1 b -/
noncomputable def b_cross (F : Nat → List PV → R PV) : VL.Env → Out := sRet [] (e2 subP (e2 mulP (e2 ixP (eVar 0) (eC (.int 0))) (e2 ixP (eVar 1) (eC (.int 1)))) (e2 mulP (e2 ixP (eVar 0) (eC (.int 1))) (e2 ixP (eVar 1) (eC (.int 0)))))
/-- dot (296): 0 a, 1 b -/
noncomputable def b_dot (F : Nat → List PV → R PV) : VL.Env → Out := sRet [] (e2 addP (e2 mulP (e2 ixP (eVar 0) (eC (.int 0))) (e2 ixP (eVar 1) (eC (.int 0)))) (e2 mulP (e2 ixP (eVar 0) (eC (.int 1))) (e2 ixP (eVar 1) (eC (.int 1)))))
/-- way_between (646): 0 one, 1 other -/
noncomputable def b_way_between (F : Nat → List PV → R PV) : VL.Env → Out := sRet [] (eArgs gTupV [e2 subP (e2 ixP (eVar 1) (eC (.int 0))) (e2 ixP (eVar 0) (eC (.int 0))), e2 subP (e2 ixP (eVar 1) (eC (.int 1))) (e2 ixP (eVar 0) (eC (.int 1)))])
/-- word_of (659): 0 side -/
noncomputable def b_word_of_v1 (F : Nat → List PV → R PV) : VL.Env → Out := sSeq (sIf [] (eTst (e2 eqP (eVar 0) (eC (.int 0)))) (sRet [] (eC (.str "on"))) (sPass)) (sRet [] (eIf (eTst (e2 gtP (eVar 0) (eC (.int 0)))) (eC (.str "left")) (eC (.str "right"))))
/-- off_by (480): 0 place, 1 way, 2 ship, 3 side -/
noncomputable def b_off_by (F : Nat → List PV → R PV) : VL.Env → Out := sSeq (sSet 3 [] (eArgs (gN 2 (F 285)) [eVar 1, eArgs (gN 2 (F 646)) [eVar 0, eVar 2]])) (sRet [] (eArgs gTupV [eArgs (gN 1 (F 659)) [eVar 3], eArgs (gN 2 (F 453)) [e2 mulP (eVar 3) (eVar 3), eArgs (gN 2 (F 296)) [eVar 1, eVar 1]]]))
noncomputable def b_crossing_of_0 (F : Nat → List PV → R PV) : Ex := eArgs (gN 2 (F 453)) [e2 mulP (eVar 6) (e2 addP (e2 mulP (e2 ixP (eVar 0) (eVar 8)) (eVar 4)) (e2 mulP (e2 ixP (eVar 1) (eVar 8)) (eVar 5))), eCB absP [eVar 4]]
/-- crossing_of (287): 0 one, 1 way, 2 other, 3 second, 4 bottom, 5 top, 6 sign, 7 parts, 8 at -/
noncomputable def b_crossing_of (F : Nat → List PV → R PV) : VL.Env → Out := sSeq (sSet 4 [] (eArgs (gN 2 (F 285)) [eVar 1, eVar 3])) (sSeq (sIf [] (eTst (e2 eqP (eVar 4) (eC (.int 0)))) (sRet [] (eC .non)) (sPass)) (sSeq (sSet 5 [] (eArgs (gN 2 (F 285)) [eArgs (gN 2 (F 646)) [eVar 0, eVar 2], eVar 3])) (sSeq (sSet 6 [] (eIf (eTst (e2 gtP (eVar 4) (eC (.int 0)))) (eC (.int 1)) (e1 negP (eC (.int 1))))) (sSeq (sSet 7 [] (asLst (eLc [8] (tN 8) (iSeq (eArgs gTupV [eC (.int 0), eC (.int 1)])) (cYes) (b_crossing_of_0 F)))) (sRet [] (eArgs gTupV [e2 ixP (eVar 7) (eC (.int 0)), e2 ixP (eVar 7) (eC (.int 1))]))))))
noncomputable def b_is_seen_so_0 (F : Nat → List PV → R PV) : VL.Env → Out := sAug 4 addIP [] (e2 mulP (e2 ixP (eVar 2) (eVar 5)) (e2 subP (e2 mulP (e2 ixP (eVar 1) (eVar 5)) (eVar 3)) (e2 mulP (e2 ixP (e2 ixP (eVar 0) (eVar 5)) (eC (.int 0))) (e2 divP (eVar 3) (e2 ixP (e2 ixP (eVar 0) (eVar 5)) (eC (.int 1)))))))
/-- is_seen_so (379): 0 place, 1 light, 2 way, 3 size, 4 ahead, 5 at -/
noncomputable def b_is_seen_so (F : Nat → List PV → R PV) : VL.Env → Out := sSeq (sSet 3 [] (e2 mulP (e2 ixP (e2 ixP (eVar 0) (eC (.int 0))) (eC (.int 1))) (e2 ixP (e2 ixP (eVar 0) (eC (.int 1))) (eC (.int 1))))) (sSeq (sSet 4 [] (eC (.int 0))) (sSeq (sFor false (tN 5) [] (iSeq (eArgs gTupV [eC (.int 0), eC (.int 1)])) (b_is_seen_so_0 F)) (sRet [] (e2 gtP (eVar 4) (eC (.int 0))))))
/-- fix_by (319): 0 one, 1 way, 2 other, 3 second, 4 place -/
noncomputable def b_fix_by (F : Nat → List PV → R PV) : VL.Env → Out := sSeq (sExpr [] (eArgs (gN 2 (F 261)) [eArgs gLstV [eVar 1, eVar 3], eC (.int 0)])) (sSeq (sExpr [] (eArgs (gN 1 (F 242)) [eVar 0])) (sSeq (sExpr [] (eArgs (gN 1 (F 242)) [eVar 2])) (sSeq (sSet 4 [] (eArgs (gN 4 (F 287)) [eVar 0, eVar 1, eVar 2, eVar 3])) (sSeq (sIf [] (cOr (eTst (e2 isP (eVar 4) (eC .non))) (cOr (cNot (eTru (eArgs (gN 3 (F 379)) [eVar 4, eVar 0, eVar 1]))) (cNot (eTru (eArgs (gN 3 (F 379)) [eVar 4, eVar 2, eVar 3]))))) (sRet [] (eC .non)) (sPass)) (sRet [] (eVar 4))))))
noncomputable def b_check_sights_0 (F : Nat → List PV → R PV) : VL.Env → Out := sExpr [] (eArgs (gN 2 (F 261)) [eArgs gLstV [e2 ixP (e2 ixP (eVar 0) (eVar 1)) (eC (.int 1))], eVar 1])
noncomputable def b_check_sights_1 (F : Nat → List PV → R PV) : VL.Env → Out := sExpr [] (eArgs (gN 1 (F 242)) [eVar 2])
/-- check_sights (252): 0 sights, 1 at, 2 place, 3 _ -/
noncomputable def b_check_sights (F : Nat → List PV → R PV) : VL.Env → Out := sSeq (sFor true (tN 1) [] (iR1 (eCB lenP [eVar 0])) (b_check_sights_0 F)) (sSeq (sFor false (tT [tN 2, tN 3]) [] (iSeq (eVar 0)) (b_check_sights_1 F)) (sIf [] (eTst (e2 neP (eCB lenP [eVar 0]) (eC c_SIGHTS))) (sRaise 25 (mkFs 1 sp_Unequal) [] [eCB lenP [eVar 0]]) (sPass)))
noncomputable def b_corners_of_0 (F : Nat → List PV → R PV) : VL.Env → Out := sMet 1 mApp [] [eArgs (gN 4 (F 287)) [e2 ixP (e2 ixP (eVar 0) (eVar 2)) (eC (.int 0)), e2 ixP (e2 ixP (eVar 0) (eVar 2)) (eC (.int 1)), e2 ixP (e2 ixP (eVar 0) (eVar 3)) (eC (.int 0)), e2 ixP (e2 ixP (eVar 0) (eVar 3)) (eC (.int 1))]]
/-- corners_of (279): 0 sights, 1 found, 2 one, 3 other -/
noncomputable def b_corners_of (F : Nat → List PV → R PV) : VL.Env → Out := sSeq (sOwn 1 [] (eLst1 [])) (sSeq (sFor false (tT [tN 2, tN 3]) [] (iSeq (eArgs gTupV [eArgs gTupV [eC (.int 0), eC (.int 1)], eArgs gTupV [eC (.int 0), eC (.int 2)], eArgs gTupV [eC (.int 1), eC (.int 2)]])) (b_corners_of_0 F)) (sRet [false, true] (eIf (eTst (e2 inP (eC .non) (eVar 1))) (eC .non) (eVar 1))))
noncomputable def b_twice_area_0 (F : Nat → List PV → R PV) : VL.Env → Out := sAug 1 mulIP [] (e2 mulP (e2 ixP (e2 ixP (eVar 2) (eC (.int 0))) (eC (.int 1))) (e2 ixP (e2 ixP (eVar 2) (eC (.int 1))) (eC (.int 1))))
noncomputable def b_twice_area_1 (F : Nat → List PV → R PV) : Ex := eArgs gTupV [e2 mulP (e2 ixP (eVar 4) (eC (.int 0))) (e2 divP (eVar 1) (e2 ixP (eVar 4) (eC (.int 1)))), e2 mulP (e2 ixP (eVar 5) (eC (.int 0))) (e2 divP (eVar 1) (e2 ixP (eVar 5) (eC (.int 1))))]
/-- twice_area (638): 0 corners, 1 size, 2 corner, 3 told, 4 x, 5 y -/
noncomputable def b_twice_area (F : Nat → List PV → R PV) : VL.Env → Out := sSeq (sSet 1 [] (eC (.int 1))) (sSeq (sFor false (tN 2) [] (iSeq (eVar 0)) (b_twice_area_0 F)) (sSeq (sSet 3 [] (asLst (eLc [4, 5] (tT [tN 4, tN 5]) (iSeq (eVar 0)) (cYes) (b_twice_area_1 F)))) (sRet [] (eArgs (gN 2 (F 453)) [eArgs (gN 2 (F 285)) [eArgs (gN 2 (F 646)) [e2 ixP (eVar 3) (eC (.int 0)), e2 ixP (eVar 3) (eC (.int 1))], eArgs (gN 2 (F 646)) [e2 ixP (eVar 3) (eC (.int 0)), e2 ixP (eVar 3) (eC (.int 2))]], e2 mulP (eVar 1) (eVar 1)]))))
/-- hat_of (338): 0 sights, 1 corners, 2 area -/
noncomputable def b_hat_of (F : Nat → List PV → R PV) : VL.Env → Out := sSeq (sExpr [] (eArgs (gN 1 (F 252)) [eVar 0])) (sSeq (sSet 1 [] (eArgs (gN 1 (F 279)) [eVar 0])) (sSeq (sIf [] (eTst (e2 isP (eVar 1) (eC .non))) (sRet [] (eC .non)) (sPass)) (sSeq (sSet 2 [] (eArgs (gN 1 (F 638)) [eVar 1])) (sRet [] (eArgs gTupV [eArgs gTupV [eCB absP [e2 ixP (eVar 2) (eC (.int 0))], e2 ixP (eVar 2) (eC (.int 1))], eVar 1])))))
noncomputable def b_inside_hat_0 (F : Nat → List PV → R PV) : Ex := e2 ixP (eArgs (gN 1 (F 638)) [eArgs gLstV [e2 ixP (eVar 2) (eVar 5), e2 ixP (eVar 2) (e2 modP (e2 addP (eVar 5) (eC (.int 1))) (eC c_SIGHTS)), eVar 3]]) (eC (.int 0))
/-- inside_hat (345): 0 sights, 1 ship, 2 corners, 3 point, 4 signs, 5 at -/
noncomputable def b_inside_hat (F : Nat → List PV → R PV) : VL.Env → Out := sSeq (sExpr [] (eArgs (gN 1 (F 252)) [eVar 0])) (sSeq (sExpr [] (eArgs (gN 1 (F 242)) [eVar 1])) (sSeq (sSet 2 [] (eArgs (gN 1 (F 279)) [eVar 0])) (sSeq (sIf [] (eTst (e2 isP (eVar 2) (eC .non))) (sRet [] (eC (.bl false))) (sPass)) (sSeq (sSet 3 [] (eArgs gTupV [eArgs gTupV [e2 ixP (eVar 1) (eC (.int 0)), eC (.int 1)], eArgs gTupV [e2 ixP (eVar 1) (eC (.int 1)), eC (.int 1)]])) (sSeq (sSet 4 [] (asLst (eLc [5] (tN 5) (iR1 (eC c_SIGHTS)) (cYes) (b_inside_hat_0 F)))) (sSeq (sIf [] (eTst (e2 eqP (e2 ixP (eArgs (gN 1 (F 638)) [eVar 2]) (eC (.int 0))) (eC (.int 0)))) (sRet [] (e2 eqP (eVar 3) (e2 ixP (eVar 2) (eC (.int 0))))) (sPass)) (sRet [] (eOr (e2 geP (eCB minP [eVar 4]) (eC (.int 0))) (e2 leP (eCB maxP [eVar 4]) (eC (.int 0)))))))))))
/-- sight_error (579): 0 place, 1 way, 2 ship -/
noncomputable def b_sight_error (F : Nat → List PV → R PV) : VL.Env → Out := sSeq (sExpr [] (eArgs (gN 2 (F 261)) [eArgs gLstV [eVar 1], eC (.int 0)])) (sSeq (sExpr [] (eArgs (gN 1 (F 242)) [eVar 0])) (sSeq (sExpr [] (eArgs (gN 1 (F 242)) [eVar 2])) (sRet [] (eArgs (gN 3 (F 480)) [eVar 0, eVar 1, eVar 2]))))
/-- _law_cell (13): 0 script, 1 k -/
noncomputable def b__law_cell (F : Nat → List PV → R PV) : VL.Env → Out := sSeq (sIf [] (eTst (e2 ltP (eVar 1) (eCB lenP [eVar 0]))) (sRet [] (e2 ixP (eVar 0) (eVar 1))) (sPass)) (sRet [] (eC (.int 0)))
noncomputable def b__law_draw_0 (F : Nat → List PV → R PV) : VL.Env → Out := sIf [] (cAnd (eTru (eVar 4)) (eTst (e2 geP (eVar 3) (e2 ixP (eVar 1) (eVar 5))))) (sSeq (sMet 2 mApp [] [e2 modP (eCB intP [eVar 3]) (e2 ixP (eVar 1) (eVar 5))]) (sSet 3 [] (e2 divP (eVar 3) (e2 ixP (eVar 1) (eVar 5))))) (sSeq (sSet 6 [] (e2 modP (eCB intP [e2 addP (e2 mulP (eCB absP [eVar 0]) (eC (.int 48271))) (e2 mulP (e2 addP (eVar 5) (eC (.int 1))) (eC (.int 69621)))]) (eC (.int 2147483647)))) (sSeq (sSet 6 [] (e2 modP (eCB intP [e2 addP (e2 mulP (eVar 6) (eC (.int 16807))) (e2 mulP (e2 addP (eVar 5) (eC (.int 1))) (eC (.int 40692)))]) (eC (.int 2147483399)))) (sMet 2 mApp [] [e2 modP (eCB intP [eVar 6]) (e2 ixP (eVar 1) (eVar 5))])))
/-- _law_draw (22): 0 cell, 1 limits, 2 row, 3 rest, 4 great, 5 k, 6 mixed -/
noncomputable def b__law_draw (F : Nat → List PV → R PV) : VL.Env → Out := sSeq (sOwn 2 [] (eLst1 [])) (sSeq (sSet 3 [] (eCB absP [eVar 0])) (sSeq (sSet 4 [] (e2 geP (eVar 3) (eC (.int 1000000000000000000)))) (sSeq (sFor true (tN 5) [] (iR1 (eCB lenP [eVar 1])) (b__law_draw_0 F)) (sRet [false, false, true] (eVar 2)))))
/-- _law_way (166): 0 cell, 1 wide, 2 d, 3 way -/
noncomputable def b__law_way (F : Nat → List PV → R PV) : VL.Env → Out := sSeq (sSet 2 [] (eArgs (gN 2 (F 22)) [eVar 0, eArgs gLstV [e2 addP (e2 mulP (eC (.int 2)) (eVar 1)) (eC (.int 1)), e2 addP (e2 mulP (eC (.int 2)) (eVar 1)) (eC (.int 1)), eC (.int 4)]])) (sSeq (sSet 3 [] (eArgs gTupV [e2 subP (e2 ixP (eVar 2) (eC (.int 0))) (eVar 1), e2 subP (e2 ixP (eVar 2) (eC (.int 1))) (eVar 1)])) (sSeq (sIf [] (eTst (e2 eqP (eVar 3) (eArgs gTupV [eC (.int 0), eC (.int 0)]))) (sRet [] (e2 ixP (eArgs gLstV [eArgs gTupV [eC (.int 0), eC (.int 1)], eArgs gTupV [eC (.int 1), eC (.int 0)], eArgs gTupV [eC (.int 0), e1 negP (eC (.int 1))], eArgs gTupV [e1 negP (eC (.int 1)), eC (.int 0)]]) (e2 ixP (eVar 2) (eC (.int 2))))) (sPass)) (sRet [] (eVar 3))))
/-- _law_turn_of (163): 0 a, 1 b -/
noncomputable def b__law_turn_of (F : Nat → List PV → R PV) : VL.Env → Out := sRet [] (e2 subP (e2 mulP (e2 ixP (eVar 0) (eC (.int 0))) (e2 ixP (eVar 1) (eC (.int 1)))) (e2 mulP (e2 ixP (eVar 0) (eC (.int 1))) (e2 ixP (eVar 1) (eC (.int 0)))))
/-- _law_ship (105): 0 cell, 1 wide, 2 d -/
noncomputable def b__law_ship (F : Nat → List PV → R PV) : VL.Env → Out := sSeq (sSet 2 [] (eArgs (gN 2 (F 22)) [eVar 0, eArgs gLstV [e2 addP (e2 mulP (eC (.int 2)) (eVar 1)) (eC (.int 1)), e2 addP (e2 mulP (eC (.int 2)) (eVar 1)) (eC (.int 1))]])) (sRet [] (eArgs gTupV [e2 subP (e2 ixP (eVar 2) (eC (.int 0))) (eVar 1), e2 subP (e2 ixP (eVar 2) (eC (.int 1))) (eVar 1)]))
noncomputable def b__law_lowest_v0_0 (F : Nat → List PV → R PV) : VL.Env → Out := sSeq (sIf [] (eTst (e2 eqP (eVar 3) (eC (.int 0)))) (sBreak) (sPass)) (sSeq (sSet 5 [] (e2 modP (eCB intP [eVar 2]) (eVar 3))) (sSeq (sSet 2 [] (eVar 3)) (sSet 3 [] (eVar 5))))
/-- _law_lowest (55): 0 top, 1 bottom, 2 a, 3 b, 4 k, 5 rest -/
noncomputable def b__law_lowest_v0 (F : Nat → List PV → R PV) : VL.Env → Out := sSeq (sSet 2 [] (eCB absP [eVar 0])) (sSeq (sSet 3 [] (eCB absP [eVar 1])) (sSeq (sFor true (tN 4) [] (iR1 (eC (.int 400))) (b__law_lowest_v0_0 F)) (sSeq (sIf [] (eTst (e2 ltP (eVar 1) (eC (.int 0)))) (sSet 2 [] (e1 negP (eVar 2))) (sPass)) (sRet [] (eArgs gTupV [e2 divP (eVar 0) (eVar 2), e2 divP (eVar 1) (eVar 2)])))))
/-- _law_meet (63): 0 one, 1 way, 2 other, 3 second, 4 turn, 5 gap, 6 k -/
noncomputable def b__law_meet (F : Nat → List PV → R PV) : VL.Env → Out := sSeq (sSet 4 [] (eArgs (gN 2 (F 163)) [eVar 1, eVar 3])) (sSeq (sIf [] (eTst (e2 eqP (eVar 4) (eC (.int 0)))) (sRet [] (eC .non)) (sPass)) (sSeq (sSet 5 [] (eArgs gTupV [e2 subP (e2 ixP (eVar 2) (eC (.int 0))) (e2 ixP (eVar 0) (eC (.int 0))), e2 subP (e2 ixP (eVar 2) (eC (.int 1))) (e2 ixP (eVar 0) (eC (.int 1)))])) (sSeq (sSet 6 [] (eArgs (gN 2 (F 163)) [eVar 5, eVar 3])) (sRet [] (eArgs gTupV [eArgs (gN 2 (F 55)) [e2 addP (e2 mulP (e2 ixP (eVar 0) (eC (.int 0))) (eVar 4)) (e2 mulP (eVar 6) (e2 ixP (eVar 1) (eC (.int 0)))), eVar 4], eArgs (gN 2 (F 55)) [e2 addP (e2 mulP (e2 ixP (eVar 0) (eC (.int 1))) (eVar 4)) (e2 mulP (eVar 6) (e2 ixP (eVar 1) (eC (.int 1)))), eVar 4]])))))
noncomputable def b__law_fix_0 (F : Nat → List PV → R PV) : VL.Env → Out := sSeq (sSet 6 [] (eArgs gTupV [e2 subP (e2 mulP (e2 ixP (e2 ixP (eVar 5) (eC (.int 0))) (eC (.int 0))) (e2 ixP (e2 ixP (eVar 4) (eC (.int 0))) (eC (.int 1)))) (e2 ixP (e2 ixP (eVar 4) (eC (.int 0))) (eC (.int 0))), e2 ixP (e2 ixP (eVar 4) (eC (.int 0))) (eC (.int 1))])) (sSeq (sSet 7 [] (eArgs gTupV [e2 subP (e2 mulP (e2 ixP (e2 ixP (eVar 5) (eC (.int 0))) (eC (.int 1))) (e2 ixP (e2 ixP (eVar 4) (eC (.int 1))) (eC (.int 1)))) (e2 ixP (e2 ixP (eVar 4) (eC (.int 1))) (eC (.int 0))), e2 ixP (e2 ixP (eVar 4) (eC (.int 1))) (eC (.int 1))])) (sSeq (sSet 8 [] (e2 addP (e2 mulP (e2 mulP (e2 ixP (eVar 6) (eC (.int 0))) (e2 ixP (eVar 7) (eC (.int 1)))) (e2 ixP (e2 ixP (eVar 5) (eC (.int 1))) (eC (.int 0)))) (e2 mulP (e2 mulP (e2 ixP (eVar 7) (eC (.int 0))) (e2 ixP (eVar 6) (eC (.int 1)))) (e2 ixP (e2 ixP (eVar 5) (eC (.int 1))) (eC (.int 1)))))) (sIf [] (eTst (e2 leP (eVar 8) (eC (.int 0)))) (sRet [] (eC .non)) (sPass))))
/-- _law_fix (34): 0 one, 1 way, 2 other, 3 second, 4 spot, 5 pair, 6 x, 7 y, 8 along -/
noncomputable def b__law_fix (F : Nat → List PV → R PV) : VL.Env → Out := sSeq (sSet 4 [] (eArgs (gN 4 (F 63)) [eVar 0, eVar 1, eVar 2, eVar 3])) (sSeq (sIf [] (eTst (e2 isP (eVar 4) (eC .non))) (sRet [] (eC .non)) (sPass)) (sSeq (sFor false (tN 5) [] (iSeq (eArgs gLstV [eArgs gTupV [eVar 0, eVar 1], eArgs gTupV [eVar 2, eVar 3]])) (b__law_fix_0 F)) (sRet [] (eVar 4))))
/-- _law_side_of (112): 0 sight, 1 spot, 2 x, 3 y -/
noncomputable def b__law_side_of (F : Nat → List PV → R PV) : VL.Env → Out := sSeq (sSet 2 [] (e2 subP (e2 ixP (e2 ixP (eVar 1) (eC (.int 0))) (eC (.int 0))) (e2 mulP (e2 ixP (e2 ixP (eVar 0) (eC (.int 0))) (eC (.int 0))) (e2 ixP (e2 ixP (eVar 1) (eC (.int 0))) (eC (.int 1)))))) (sSeq (sSet 3 [] (e2 subP (e2 ixP (e2 ixP (eVar 1) (eC (.int 1))) (eC (.int 0))) (e2 mulP (e2 ixP (e2 ixP (eVar 0) (eC (.int 0))) (eC (.int 1))) (e2 ixP (e2 ixP (eVar 1) (eC (.int 1))) (eC (.int 1)))))) (sRet [] (e2 subP (e2 mulP (e2 mulP (e2 ixP (e2 ixP (eVar 0) (eC (.int 1))) (eC (.int 0))) (eVar 3)) (e2 ixP (e2 ixP (eVar 1) (eC (.int 0))) (eC (.int 1)))) (e2 mulP (e2 mulP (e2 ixP (e2 ixP (eVar 0) (eC (.int 1))) (eC (.int 1))) (eVar 2)) (e2 ixP (e2 ixP (eVar 1) (eC (.int 1))) (eC (.int 1)))))))
noncomputable def b_law_v20_0 (F : Nat → List PV → R PV) : Ex := eArgs (gN 4 (F 63)) [e2 ixP (e2 ixP (eVar 8) (e2 ixP (eVar 26) (eC (.int 0)))) (eC (.int 0)), e2 ixP (e2 ixP (eVar 8) (e2 ixP (eVar 26) (eC (.int 0)))) (eC (.int 1)), e2 ixP (e2 ixP (eVar 8) (e2 ixP (eVar 26) (eC (.int 1)))) (eC (.int 0)), e2 ixP (e2 ixP (eVar 8) (e2 ixP (eVar 26) (eC (.int 1)))) (eC (.int 1))]
noncomputable def b_law_v20_1 (F : Nat → List PV → R PV) : VL.Env → Out := sSet 13 [] (e2 mulP (e2 mulP (eVar 13) (e2 ixP (e2 ixP (eVar 14) (eC (.int 0))) (eC (.int 1)))) (e2 ixP (e2 ixP (eVar 14) (eC (.int 1))) (eC (.int 1))))
noncomputable def b_law_v20_2 (F : Nat → List PV → R PV) : VL.Env → Out := sMet 12 mApp [] [eArgs gTupV [e2 mulP (e2 ixP (e2 ixP (eVar 14) (eC (.int 0))) (eC (.int 0))) (e2 divP (eVar 13) (e2 ixP (e2 ixP (eVar 14) (eC (.int 0))) (eC (.int 1)))), e2 mulP (e2 ixP (e2 ixP (eVar 14) (eC (.int 1))) (eC (.int 0))) (e2 divP (eVar 13) (e2 ixP (e2 ixP (eVar 14) (eC (.int 1))) (eC (.int 1))))]]
noncomputable def b_law_v20_3 (F : Nat → List PV → R PV) : VL.Env → Out := sSeq (sSet 20 [] (e2 ixP (eVar 10) (e2 subP (eC (.int 2)) (eVar 19)))) (sSet 17 [] (eAnd (eVar 17) (e2 geP (e2 mulP (eArgs (gN 2 (F 112)) [e2 ixP (eVar 8) (eVar 19), eVar 18]) (eArgs (gN 2 (F 112)) [e2 ixP (eVar 8) (eVar 19), eVar 20])) (eC (.int 0)))))
noncomputable def b_law_v20_t23 (F : Nat → List PV → R PV) : VL.Env → Out := sRet [] (eAnd (e2 eqP (eArgs (gN 5 (F 147)) [eC (.int 1), eSl (eVar 8) (pNo) (pAt (eC (.int 2))), eC (.int 0), eC (.int 0), eC (.int 0)]) (eArgs gTupV [eC (.str "unequal"), eC (.int 2)])) (e2 eqP (eArgs (gN 5 (F 147)) [eC (.int 1), eArgs gLstV [e2 ixP (eVar 8) (eC (.int 0)), eArgs gTupV [eVar 1, eVar 25], e2 ixP (eVar 8) (eC (.int 2))], eC (.int 0), eC (.int 0), eC (.int 0)]) (eArgs gTupV [eC (.str "way"), eC (.int 1)])))
noncomputable def b_law_v20_t22 (F : Nat → List PV → R PV) : VL.Env → Out := sSeq (sIf [] (cOr (eTst (e2 neP (eArgs (gN 5 (F 147)) [eC (.int 0), eVar 1, eVar 25, eVar 2, eVar 25]) (eArgs gTupV [eC (.str "way"), eC (.int 0)]))) (cOr (eTst (e2 neP (eArgs (gN 5 (F 147)) [eC (.int 0), eVar 1, eVar 4, eVar 2, eVar 25]) (eArgs gTupV [eC (.str "way"), eC (.int 1)]))) (eTst (e2 neP (eArgs (gN 5 (F 147)) [eC (.int 0), eArgs gTupV [eC (.int 100001), eC (.int 0)], eVar 4, eVar 2, eVar 5]) (eArgs gTupV [eC (.str "range"), eC (.int 100001)]))))) (sRet [] (eC (.bl false))) (sPass)) (b_law_v20_t23 F)
noncomputable def b_law_v20_t21 (F : Nat → List PV → R PV) : VL.Env → Out := sSeq (sSet 25 [] (eArgs gTupV [eC (.int 0), eC (.int 0)])) (b_law_v20_t22 F)
noncomputable def b_law_v20_t20 (F : Nat → List PV → R PV) : VL.Env → Out := sSeq (sIf [] (cOr (eTst (e2 neP (e2 ixP (eVar 23) (eC (.int 0))) (eC (.str "value")))) (cOr (eTst (e2 neP (e2 ixP (e2 ixP (eVar 23) (eC (.int 1))) (eC (.int 1))) (eVar 24))) (eTst (e2 neP (e2 eqP (e2 ixP (e2 ixP (eVar 23) (eC (.int 1))) (eC (.int 0))) (eC (.str "on"))) (e2 eqP (eVar 22) (eC (.int 0))))))) (sRet [] (eC (.bl false))) (sPass)) (b_law_v20_t21 F)
noncomputable def b_law_v20_t19 (F : Nat → List PV → R PV) : VL.Env → Out := sSeq (sSet 24 [] (eArgs (gN 2 (F 55)) [e2 mulP (eVar 22) (eVar 22), e2 addP (e2 mulP (e2 ixP (eVar 4) (eC (.int 0))) (e2 ixP (eVar 4) (eC (.int 0)))) (e2 mulP (e2 ixP (eVar 4) (eC (.int 1))) (e2 ixP (eVar 4) (eC (.int 1))))])) (b_law_v20_t20 F)
noncomputable def b_law_v20_t18 (F : Nat → List PV → R PV) : VL.Env → Out := sSeq (sSet 23 [] (eArgs (gN 5 (F 147)) [eC (.int 3), eVar 1, eVar 4, eVar 7, eC (.int 0)])) (b_law_v20_t19 F)
noncomputable def b_law_v20_t17 (F : Nat → List PV → R PV) : VL.Env → Out := sSeq (sSet 22 [] (eArgs (gN 2 (F 163)) [eVar 4, eArgs gTupV [e2 subP (e2 ixP (eVar 7) (eC (.int 0))) (e2 ixP (eVar 1) (eC (.int 0))), e2 subP (e2 ixP (eVar 7) (eC (.int 1))) (e2 ixP (eVar 1) (eC (.int 1)))]])) (b_law_v20_t18 F)
noncomputable def b_law_v20_t16 (F : Nat → List PV → R PV) : VL.Env → Out := sSeq (sIf [] (cAnd (eTst (e2 isntP (eVar 11) (eC .non))) (eTst (e2 gtP (e2 ixP (e2 ixP (eVar 11) (eC (.int 0))) (eC (.int 0))) (eC (.int 0))))) (sSeq (sSet 17 [] (eC (.bl true))) (sSeq (sSet 18 [] (eArgs gTupV [eArgs gTupV [e2 ixP (eVar 7) (eC (.int 0)), eC (.int 1)], eArgs gTupV [e2 ixP (eVar 7) (eC (.int 1)), eC (.int 1)]])) (sSeq (sFor true (tN 19) [] (iR1 (eC (.int 3))) (b_law_v20_3 F)) (sSeq (sSet 21 [] (eArgs (gN 5 (F 147)) [eC (.int 2), eCB listP [eVar 8], eVar 7, eC (.int 0), eC (.int 0)])) (sIf [] (cOr (eTst (e2 neP (eVar 21) (eArgs gTupV [eC (.str "value"), eVar 17]))) (cNot (eTru (eCB isaP [e2 ixP (eVar 21) (eC (.int 1)), eC (.ty "bool")])))) (sRet [] (eC (.bl false))) (sPass)))))) (sPass)) (b_law_v20_t17 F)
noncomputable def b_law_v20_t15 (F : Nat → List PV → R PV) : VL.Env → Out := sSeq (sIf [] (cAnd (eTst (e2 neP (eVar 16) (eArgs gTupV [eC (.str "value"), eVar 11]))) (cNot (cAnd (eTst (e2 isntP (eVar 11) (eC .non))) (eTst (e2 eqP (eVar 16) (eArgs gTupV [eC (.str "value"), eArgs gTupV [e2 ixP (eVar 11) (eC (.int 0)), eCB tupleP [e2 ixP (eVar 11) (eC (.int 1))]]])))))) (sRet [] (eC (.bl false))) (sPass)) (b_law_v20_t16 F)
noncomputable def b_law_v20_t14 (F : Nat → List PV → R PV) : VL.Env → Out := sSeq (sSet 16 [] (eArgs (gN 5 (F 147)) [eC (.int 1), eCB listP [eVar 8], eC (.int 0), eC (.int 0), eC (.int 0)])) (b_law_v20_t15 F)
noncomputable def b_law_v20_t13 (F : Nat → List PV → R PV) : VL.Env → Out := sSeq (sIf [] (eTst (e2 ninP (eC .non) (eVar 10))) (sSeq (sOwn 12 [] (eLst1 [])) (sSeq (sSet 13 [] (eC (.int 1))) (sSeq (sFor false (tN 14) [] (iSeq (eVar 10)) (b_law_v20_1 F)) (sSeq (sFor false (tN 14) [] (iSeq (eVar 10)) (b_law_v20_2 F)) (sSeq (sSet 15 [false, false, false, false, false, false, false, false, false, false, false, false, true] (e2 subP (e2 mulP (e2 subP (e2 ixP (e2 ixP (eVar 12) (eC (.int 1))) (eC (.int 0))) (e2 ixP (e2 ixP (eVar 12) (eC (.int 0))) (eC (.int 0)))) (e2 subP (e2 ixP (e2 ixP (eVar 12) (eC (.int 2))) (eC (.int 1))) (e2 ixP (e2 ixP (eVar 12) (eC (.int 0))) (eC (.int 1))))) (e2 mulP (e2 subP (e2 ixP (e2 ixP (eVar 12) (eC (.int 1))) (eC (.int 1))) (e2 ixP (e2 ixP (eVar 12) (eC (.int 0))) (eC (.int 1)))) (e2 subP (e2 ixP (e2 ixP (eVar 12) (eC (.int 2))) (eC (.int 0))) (e2 ixP (e2 ixP (eVar 12) (eC (.int 0))) (eC (.int 0))))))) (sSet 11 [] (eArgs gTupV [eArgs (gN 2 (F 55)) [eCB absP [eVar 15], e2 mulP (eVar 13) (eVar 13)], eVar 10]))))))) (sPass)) (b_law_v20_t14 F)
noncomputable def b_law_v20_t12 (F : Nat → List PV → R PV) : VL.Env → Out := sSeq (sSet 11 [] (eC .non)) (b_law_v20_t13 F)
noncomputable def b_law_v20_t11 (F : Nat → List PV → R PV) : VL.Env → Out := sSeq (sSet 10 [] (asLst (eLc [26] (tN 26) (iSeq (eVar 9)) (cYes) (b_law_v20_0 F)))) (b_law_v20_t12 F)
noncomputable def b_law_v20_t10 (F : Nat → List PV → R PV) : VL.Env → Out := sSeq (sSet 9 [] (eArgs gLstV [eArgs gTupV [eC (.int 0), eC (.int 1)], eArgs gTupV [eC (.int 0), eC (.int 2)], eArgs gTupV [eC (.int 1), eC (.int 2)]])) (b_law_v20_t11 F)
noncomputable def b_law_v20_t9 (F : Nat → List PV → R PV) : VL.Env → Out := sSeq (sSet 8 [] (eArgs gLstV [eArgs gTupV [eVar 1, eVar 4], eArgs gTupV [eVar 2, eVar 5], eArgs gTupV [eVar 3, eVar 6]])) (b_law_v20_t10 F)
noncomputable def b_law_v20_t8 (F : Nat → List PV → R PV) : VL.Env → Out := sSeq (sIf [] (eTst (e2 neP (eArgs (gN 5 (F 147)) [eC (.int 0), eVar 1, eVar 4, eVar 2, eVar 5]) (eArgs gTupV [eC (.str "value"), eArgs (gN 4 (F 34)) [eVar 1, eVar 4, eVar 2, eVar 5]]))) (sRet [] (eC (.bl false))) (sPass)) (b_law_v20_t9 F)
noncomputable def b_law_v20_t7 (F : Nat → List PV → R PV) : VL.Env → Out := sSeq (sIf [] (cAnd (eTst (e2 eqP (e2 modP (eCB intP [eArgs (gN 2 (F 13)) [eVar 0, eC (.int 2)]]) (eC (.int 2))) (eC (.int 1)))) (eTst (e2 ninP (eVar 7) (eArgs gLstV [eVar 1, eVar 2])))) (sSeq (sSet 4 [] (eArgs gTupV [e2 subP (e2 ixP (eVar 1) (eC (.int 0))) (e2 ixP (eVar 7) (eC (.int 0))), e2 subP (e2 ixP (eVar 1) (eC (.int 1))) (e2 ixP (eVar 7) (eC (.int 1)))])) (sSet 5 [] (eArgs gTupV [e2 subP (e2 ixP (eVar 2) (eC (.int 0))) (e2 ixP (eVar 7) (eC (.int 0))), e2 subP (e2 ixP (eVar 2) (eC (.int 1))) (e2 ixP (eVar 7) (eC (.int 1)))]))) (sPass)) (b_law_v20_t8 F)
noncomputable def b_law_v20_t6 (F : Nat → List PV → R PV) : VL.Env → Out := sSeq (sSet 7 [] (eArgs (gN 2 (F 105)) [e2 addP (eCB absP [eArgs (gN 2 (F 13)) [eVar 0, eC (.int 5)]]) (eC (.int 7)), eC (.int 30)])) (b_law_v20_t7 F)
noncomputable def b_law_v20_t5 (F : Nat → List PV → R PV) : VL.Env → Out := sSeq (sSet 6 [] (eArgs (gN 2 (F 166)) [eCB absP [eArgs (gN 2 (F 13)) [eVar 0, eC (.int 5)]], eC (.int 6)])) (b_law_v20_t6 F)
noncomputable def b_law_v20_t4 (F : Nat → List PV → R PV) : VL.Env → Out := sSeq (sSet 5 [] (eArgs (gN 2 (F 166)) [eCB absP [eArgs (gN 2 (F 13)) [eVar 0, eC (.int 4)]], eC (.int 6)])) (b_law_v20_t5 F)
noncomputable def b_law_v20_t3 (F : Nat → List PV → R PV) : VL.Env → Out := sSeq (sSet 4 [] (eArgs (gN 2 (F 166)) [eCB absP [eArgs (gN 2 (F 13)) [eVar 0, eC (.int 3)]], eC (.int 6)])) (b_law_v20_t4 F)
noncomputable def b_law_v20_t2 (F : Nat → List PV → R PV) : VL.Env → Out := sSeq (sSet 3 [] (eArgs (gN 2 (F 105)) [eCB absP [eArgs (gN 2 (F 13)) [eVar 0, eC (.int 2)]], eC (.int 20)])) (b_law_v20_t3 F)
noncomputable def b_law_v20_t1 (F : Nat → List PV → R PV) : VL.Env → Out := sSeq (sSet 2 [] (eArgs (gN 2 (F 105)) [eCB absP [eArgs (gN 2 (F 13)) [eVar 0, eC (.int 1)]], eC (.int 20)])) (b_law_v20_t2 F)
/-- law (418): 0 script, 1 one, 2 other, 3 third, 4 way, 5 second, 6 last, 7 ship, 8 sights, 9 pairs, 10 corners, 11 due, 12 xs, 13 common, 14 corner, 15 area, 16 hat, 17 inside, 18 spot, 19 k, 20 across, 21 told, 22 cross_v, 23 off, 24 square, 25 none, 26 pair -/
noncomputable def b_law_v20 (F : Nat → List PV → R PV) : VL.Env → Out := sSeq (sSet 1 [] (eArgs (gN 2 (F 105)) [eCB absP [eArgs (gN 2 (F 13)) [eVar 0, eC (.int 0)]], eC (.int 20)])) (b_law_v20_t1 F)
noncomputable def b__law_lowest_v1_0 (F : Nat → List PV → R PV) : VL.Env → Out := sSeq (sIf [] (eTst (e2 eqP (eVar 3) (eC (.int 0)))) (sBreak) (sPass)) (sSeq (sSet 5 [] (e2 modP (eCB intP [eVar 2]) (eVar 3))) (sSeq (sSet 2 [] (eVar 3)) (sSet 3 [] (eVar 5))))
/-- _law_lowest (56): 0 top, 1 bottom, 2 a, 3 b, 4 k, 5 rest -/
noncomputable def b__law_lowest_v1 (F : Nat → List PV → R PV) : VL.Env → Out := sSeq (sSet 2 [] (eCB absP [eVar 0])) (sSeq (sSet 3 [] (eVar 1)) (sSeq (sFor true (tN 4) [] (iR1 (eC (.int 400))) (b__law_lowest_v1_0 F)) (sRet [] (eArgs gTupV [e2 divP (eVar 0) (eVar 2), e2 divP (eVar 1) (eVar 2)]))))
end PF
namespace PH
open PySem PySem.Spec PyProof.Rows L2 VL PF
/-! ### the laws' common words: _law_cell, _law_draw -/
theorem atI_map {α β : Type} (f : α → β) (xs : List α) (i : Int) : atI (xs.map f) i = (atI xs i).map f := by
  unfold atI
  rw [List.length_map]
  cases ixN xs.length i with
  | none => rfl
  | some j => simp
theorem atI_getD {α : Type} {xs : List α} {i : Nat} (d : α) (h : i < xs.length) : atI xs (i : Int) = some (xs.getD i d) := by
  rw [atI_nat' h]
  simp [h]
def cell (ns : List Int) (k : Nat) : Int := ns.getD k 0
def S_cell (g : List PV → R PV) : Prop := ∀ (ns : List Int) (k : Nat), g [.src (ns.map .int), .int (k : Int)] = .ok (.int (cell ns k))
theorem sp_cell (F : Nat → List PV → R PV) : S_cell fun us => outR (b__law_cell F (startE 2 us)) := by
  intro ns k
  unfold cell
  by_cases h : k < ns.length
  · have h' : (k : Int) < (ns.length : Int) := by omega
    simp -implicitDefEqProofs [b__law_cell, h', atI_map, atI_getD 0 h]
  · have h' : ¬ (k : Int) < (ns.length : Int) := by omega
    have e : ns[k]? = none := List.getElem?_eq_none (by omega)
    simp -implicitDefEqProofs [b__law_cell, h', e]
/-- a value of a list at a place -/
def nth (xs : List Int) (i : Nat) : Int := xs.getD i 0
theorem nth_at {xs : List Int} {i : Nat} (h : i < xs.length) : atI (xs.map PV.int) (i : Int) = some (.int (nth xs i)) := by
  rw [atI_map, atI_getD 0 h]
  rfl
def S_draw (g : List PV → R PV) : Prop := ∀ (c : Int) (ls : List Int), ls.length ≤ 1000 → (∀ i < ls.length, 0 < nth ls i ∧ nth ls i < 18446744073709551616) →
  ∃ row : List Int, g [.int c, .lst (ls.map .int)] = .ok (.lst (row.map .int)) ∧ row.length = ls.length ∧ ∀ i < ls.length, 0 ≤ nth row i ∧ nth row i < nth ls i
theorem nth_app {row : List Int} {x : Int} {i : Nat} : nth (row ++ [x]) i = if i < row.length then nth row i else if i = row.length then x else 0 := by
  unfold nth
  rw [List.getD_eq_getElem?_getD, List.getElem?_append]
  split
  · rw [List.getD_eq_getElem?_getD]
  · rename_i h
    split
    · rename_i e; subst e; simp
    · rename_i e
      rw [List.getElem?_eq_none (by simp; omega)]
      rfl
theorem draw_turn (F : Nat → List PV → R PV) {c rest : Int} {great : Bool} {ls row : List Int} {i : Nat} {s6 : Sl} (hi : i < ls.length) (hr : row.length = i) (h0 : 0 < nth ls i) (h1 : nth ls i < 18446744073709551616) (hsz : row.length < sizeLine) :
    ∃ (x rest' : Int) (s : Sl), 0 ≤ x ∧ x < nth ls i ∧ b__law_draw_0 F [.fz (.int c), .fz (.lst (ls.map .int)), .own (row.map .int), .fz (.int rest), .fz (.bl great), .fz (.int (i : Int)), s6] =
      .next [.fz (.int c), .fz (.lst (ls.map .int)), .own ((row ++ [x]).map .int), .fz (.int rest'), .fz (.bl great), .fz (.int (i : Int)), s] := by
  have hb := bigI_of h1
  have hsz' : (row.map PV.int).length < sizeLine := by simpa using hsz
  by_cases hg : great = true ∧ nth ls i ≤ rest
  · refine ⟨rest % nth ls i, rest / nth ls i, s6, Int.emod_nonneg _ (by omega), Int.emod_lt_of_pos _ h0, ?_⟩
    simp -implicitDefEqProofs [b__law_draw_0, nth_at hi, hg.1, hg.2, h0, hb, hsz]
  · have key : ∀ m : Int, 0 ≤ m % nth ls i ∧ m % nth ls i < nth ls i := fun m => ⟨Int.emod_nonneg _ (by omega), Int.emod_lt_of_pos _ h0⟩
    let M : Int := (((if c < 0 then -c else c) * 48271 + ((i : Int) + 1) * 69621) % 2147483647 * 16807 + ((i : Int) + 1) * 40692) % 2147483399
    refine ⟨M % nth ls i, rest, .fz (.int M), (key M).1, (key M).2, ?_⟩
    by_cases hg1 : great = true
    · have hg2 : ¬ nth ls i ≤ rest := fun z => hg ⟨hg1, z⟩
      simp -implicitDefEqProofs [b__law_draw_0, nth_at hi, hg1, hg2, h0, hsz, M]
    · have hg1' : great = false := by simpa using hg1
      simp -implicitDefEqProofs [b__law_draw_0, nth_at hi, hg1', h0, hsz, M]
theorem sp_draw (F : Nat → List PV → R PV) : S_draw fun us => outR (b__law_draw F (startE 7 us)) := by
  intro c ls hl hb
  have loop : ∃ row : List Int, (∃ r1 r2 r3 r4 r5 r6, forL (tN 5) (b__law_draw_0 F) (rangeP 0 ls.length) [.fz (.int c), .fz (.lst (ls.map .int)), .own [], .fz (.int (if c < 0 then -c else c)), .fz (.bl (decide ((1000000000000000000 : Int) ≤ if c < 0 then -c else c))), .no, .no] = .next [r1, r2, .own (row.map .int), r3, r4, r5, r6]) ∧ row.length = ls.length ∧ ∀ i < ls.length, 0 ≤ nth row i ∧ nth row i < nth ls i := by
    refine forL_by (Q := fun o => ∃ row : List Int, (∃ r1 r2 r3 r4 r5 r6, o = .next [r1, r2, .own (row.map .int), r3, r4, r5, r6]) ∧ row.length = ls.length ∧ ∀ i < ls.length, 0 ≤ nth row i ∧ nth row i < nth ls i)
      (fun i r => ∃ (row : List Int) (rest : Int) (g : Bool) (s5 s6 : Sl), r = [.fz (.int c), .fz (.lst (ls.map .int)), .own (row.map .int), .fz (.int rest), .fz (.bl g), s5, s6] ∧ row.length = i ∧ ∀ j < i, 0 ≤ nth row j ∧ nth row j < nth ls j)
      ⟨[], _, _, _, _, rfl, rfl, fun j hj => by omega⟩ (fun i v r hv hi => ?_) (fun r hr => ?_)
    · obtain ⟨hi1, rfl⟩ := rangeP_get hv
      obtain ⟨row, rest, g, s5, s6, rfl, hlen, hbd⟩ := hi
      obtain ⟨x, rest', s, hx0, hx1, e⟩ := draw_turn F (c := c) (rest := rest) (great := g) (s6 := s6) hi1 hlen (hb i hi1).1 (hb i hi1).2 (by rw [szl]; omega)
      refine ⟨_, rfl, .inl ⟨_, .inl ?_, row ++ [x], rest', g, .fz (.int (i : Int)), s, rfl, by simp [hlen], fun j hj => ?_⟩⟩
      · rw [← e]
        simp -implicitDefEqProofs
      · rw [nth_app]
        by_cases hj1 : j < row.length
        · rw [if_pos hj1]; exact hbd j (by omega)
        · rw [if_neg hj1, if_pos (by omega), show j = i by omega]
          exact ⟨hx0, hx1⟩
    · obtain ⟨row, rest, g, s5, s6, rfl, hlen, hbd⟩ := hr
      rw [rangeP_len] at hlen hbd
      exact ⟨row, ⟨_, _, _, _, _, _, rfl⟩, hlen, hbd⟩
  obtain ⟨row, ⟨r1, r2, r3, r4, r5, r6, e⟩, h1, h2⟩ := loop
  refine ⟨row, ?_, h1, h2⟩
  have hl2 : ls.length ≤ 1000000000 := Nat.le_trans hl (by decide)
  simp -implicitDefEqProofs [b__law_draw, rg1_nat hl2, e, szl]
end PH
namespace PH
open PySem PySem.Spec PyProof.Rows L2 VL PF
/-! ### phases -/
abbrev Ph := Str × Int
def COL : List Str := ["white", "red", "green", "yellow", "dark"]
def isPh (p : Ph) : Bool := decide (p.1 ∈ COL) && (decide (1 ≤ p.2) && decide (p.2 ≤ 6000))
def d0 : Ph := ("", 0)
def ph (ps : List Ph) (i : Nat) : Ph := ps.getD i d0
/-! ### the checks -/
/-- a well-made character, its ends aside -/
structure Chain (ps : List Ph) : Prop where
  ne : ps ≠ []
  ok : ∀ p ∈ ps, isPh p = true
  adj : ∀ i, i + 1 < ps.length → (ph ps i).1 ≠ (ph ps (i + 1)).1
/-- .. whose ends are of different colours -/
structure Good (ps : List Ph) : Prop extends Chain ps where
  ends : 1 < ps.length → (ph ps 0).1 ≠ (ph ps (ps.length - 1)).1
theorem getLast_ph {ps : List Ph} (h : ps ≠ []) : ps.getLast h = ph ps (ps.length - 1) := by
  unfold ph
  rw [List.getLast_eq_getElem, List.getD_eq_getElem?_getD, List.getElem?_eq_getElem (by have := List.length_pos_iff.mpr h; omega)]
  rfl
end PH
namespace PH
/-! ### tenths and runs -/
open PySem (Str)
def ticks (ps : List Ph) : List Str := ps.flatMap fun p => List.replicate p.2.toNat p.1
@[simp] theorem ticks_nil : ticks [] = [] := rfl
@[simp] theorem ticks_cons (p : Ph) (r : List Ph) : ticks (p :: r) = List.replicate p.2.toNat p.1 ++ ticks r := by simp [ticks]
def Adj : List Ph → Prop
  | [] => True
  | [_] => True
  | p :: q :: r => p.1 ≠ q.1 ∧ Adj (q :: r)
def Pos (ps : List Ph) : Prop := ∀ p ∈ ps, 1 ≤ p.2
theorem adj_of : ∀ {ps : List Ph}, (∀ i, i + 1 < ps.length → (ph ps i).1 ≠ (ph ps (i + 1)).1) → Adj ps
  | [], _ => trivial
  | [_], _ => trivial
  | p :: q :: r, h => ⟨h 0 (by simp), adj_of fun i hi => by
    have := h (i + 1) (by simp at hi ⊢; omega)
    simpa [ph] using this⟩
theorem adj_at : ∀ {ps : List Ph}, Adj ps → ∀ i, i + 1 < ps.length → (ph ps i).1 ≠ (ph ps (i + 1)).1
  | [], _, i, h => by simp at h
  | [_], _, i, h => by simp at h
  | p :: q :: r, ⟨h1, h2⟩, 0, h => h1
  | p :: q :: r, ⟨h1, h2⟩, i + 1, h => by
    have := adj_at h2 i (by simp at h ⊢; omega)
    simpa [ph] using this
def hd (ps : List Ph) : Option Str := ps.head?.map (·.1)
def lastC (ps : List Ph) : Option Str := ps.getLast?.map (·.1)
/-- what _law_runs does at a colour -/
def runStep (acc : List Ph) (c : Str) : List Ph := match acc.getLast? with
  | some l => if l.1 = c then acc.dropLast ++ [(c, l.2 + 1)] else acc ++ [(c, 1)]
  | none => [(c, 1)]
def runs (row : List Str) : List Ph := row.foldl runStep []
/-! runs of any row -/
/-! where a tenth lies -/
def place : List Ph → Int → Nat × Int
  | [], r => (0, r)
  | p :: ps, r => if p.2 ≤ r then ((place ps (r - p.2)).1 + 1, (place ps (r - p.2)).2) else (0, r)
end PH
namespace PH
open PySem PySem.Spec PyProof.Rows L2 VL PF
abbrev wh (ps : List Ph) : Int := (ps.map (·.2)).sum
theorem isPh_pos {p : Ph} (h : isPh p = true) : 1 ≤ p.2 ∧ p.2 ≤ 6000 ∧ p.1 ∈ COL := by
  unfold isPh at h
  simp only [Bool.and_eq_true, decide_eq_true_eq] at h
  exact ⟨h.2.1, h.2.2, h.1⟩
theorem Chain.pos {ps : List Ph} (c : Chain ps) : Pos ps := fun p hp => (isPh_pos (c.ok p hp)).1
/-! turned -/
def turned (ps : List Ph) (t : Int) : List Ph :=
  if ps.length = 1 then ps else
  let a := (place ps (t % wh ps)).1
  let r := (place ps (t % wh ps)).2
  if r = 0 then ps.drop a ++ ps.take a else [((ph ps a).1, (ph ps a).2 - r)] ++ ps.drop (a + 1) ++ ps.take a ++ [((ph ps a).1, r)]
end PH
namespace PH
open PySem PySem.Spec PyProof.Rows L2 VL PF
/-! joined -/
/-! shortest -/
theorem okS_col {c : Str} (h : c ∈ COL) : okS c = true := by
  simp only [COL, List.mem_cons, List.not_mem_nil, or_false] at h
  rcases h with h | h | h | h | h <;> (subst h; decide +kernel)
theorem Chain.oks {ps : List Ph} (c : Chain ps) : ∀ p ∈ ps, okS p.1 = true := fun p hp => okS_col (isPh_pos (c.ok p hp)).2.2
end PH
namespace PH
open PySem PySem.Spec PyProof.Rows L2 VL PF
theorem map_get {α : Type} {f : α → PV} {xs : List α} {i : Nat} {v : PV} (h : (xs.map f)[i]? = some v) : ∃ x, xs[i]? = some x ∧ v = f x := by
  rw [List.getElem?_map] at h
  cases e : xs[i]? with
  | none => rw [e] at h; cases h
  | some x => rw [e] at h; cases h; exact ⟨x, rfl, rfl⟩
theorem take_succ' {α : Type} {xs : List α} {i : Nat} {x : α} (h : xs[i]? = some x) : xs.take (i + 1) = xs.take i ++ [x] := by
  rw [List.take_add_one, h]
  rfl
end PH
namespace PH
open PySem PySem.Spec PyProof.Rows L2 VL PF
/-! ### _law_least -/
/-! ### _law_phases -/
theorem a12 (x y : PV) : atI [x, y] 1 = some y := rfl
end PH
namespace PH
open PySem PySem.Spec PyProof.Rows L2 VL PF
end PH
namespace PH
open PySem (Str)
/-! ### characters, turned and repeated -/
theorem hd_ph {ps : List Ph} (h : ps ≠ []) : hd ps = some (ph ps 0).1 := by
  cases ps with
  | nil => exact absurd rfl h
  | cons p r => rfl
theorem lastC_ph {ps : List Ph} (h : ps ≠ []) : lastC ps = some (ph ps (ps.length - 1)).1 := by
  unfold lastC
  rw [List.getLast?_eq_some_getLast h, getLast_ph h]
  rfl
/-- well made, said of lists -/
structure GL (ps : List Ph) : Prop where
  ne : ps ≠ []
  ok : ∀ p ∈ ps, isPh p = true
  adj : Adj ps
  ends : 1 < ps.length → lastC ps ≠ hd ps
theorem good_iff {ps : List Ph} : Good ps ↔ GL ps := by
  constructor
  · intro g
    refine ⟨g.ne, g.ok, adj_of g.adj, fun h e => ?_⟩
    rw [lastC_ph g.ne, hd_ph g.ne] at e
    exact g.ends h (Option.some.inj e).symm
  · intro g
    refine ⟨⟨g.ne, g.ok, adj_at g.adj⟩, fun h e => ?_⟩
    apply g.ends h
    rw [lastC_ph g.ne, hd_ph g.ne, e]
theorem GL.pos {ps : List Ph} (g : GL ps) : Pos ps := (good_iff.mpr g).pos
end PH
namespace PH
open PySem (Str)
/-! ### the shortest form -/
end PH
namespace VL
open PySem PySem.Spec PyProof.Rows L2
/-! a value is equal to itself -/
mutual
theorem data_self : ∀ d : PyData, PyData.canLay0 d = true → PyData.eqv d d = true
  | .none, _ => by simp [PyData.eqv]
  | .bool b, _ => by simp [PyData.eqv]
  | .int b, _ => by simp [PyData.eqv]
  | .str b, _ => by simp [PyData.eqv]
  | .list xs, h => by simp only [PyData.eqv]; exact datas_self xs (by simpa [PyData.canLay0] using h)
  | .tuple xs, h => by simp only [PyData.eqv]; exact datas_self xs (by simpa [PyData.canLay0] using h)
  | .dict _, h => by simp [PyData.canLay0] at h
theorem datas_self : ∀ d : List PyData, PyData.canLayAll0 d = true → PyData.eqvAll d d = true
  | [], _ => by simp [PyData.eqvAll]
  | x :: xs, h => by
    simp only [PyData.canLayAll0, Bool.and_eq_true] at h
    simp only [PyData.eqvAll, Bool.and_eq_true]
    exact ⟨data_self x h.1, datas_self xs h.2⟩
end
theorem eqB_self {x : PV} (h : PV.tm 64 x = true) : eqB x x = some true := by
  rw [eqB_tm h h]
  unfold PV.tm at h
  unfold PV.eqv
  cases e : x.data with
  | none => rw [e] at h; cases h
  | some d =>
    rw [e] at h
    simp only [Bool.and_eq_true] at h
    simp only
    rw [data_self d h.1]
end VL
namespace PH
open PySem PySem.Spec PyProof.Rows L2 VL PF
end PH
namespace VL
open PySem PySem.Spec PyProof.Rows L2
/-! ### more rules for the plain part -/
section
variable {ρ : Ev} {r : Env}
/-! suites of clauses -/
def xxK (ρ : Env) : R PV → Out
  | .ok v => .ret v
  | _ => .stuck
@[simp] theorem xxK_o (ρ v) : xxK ρ (.ok v) = .ret v := rfl
def hdK (i c : Nat) (fs : List (Str × PV)) (ρ : Env) (g : Xx PV) (r : List Hd) : Option Bool → Out
  | some true => if i < ρ.length then xxK ρ (g c fs) else .stuck
  | some false => tryH c fs ρ r
  | none => .stuck
@[simp] theorem hdK_t (i c fs ρ g r) : hdK i c fs ρ g r (some true) = if i < ρ.length then xxK ρ (g c fs) else .stuck := rfl
@[simp] theorem hdK_f (i c fs ρ g r) : hdK i c fs ρ g r (some false) = tryH c fs ρ r := rfl
@[simp] theorem tryH_nm (c fs) (ρ : Env) (mt i g r) : tryH c fs ρ (.nm mt i g :: r) = hdK i c fs ρ g r (mt c) := by
  conv => lhs; unfold tryH
  unfold hdK
  cases mt c with
  | none => rfl
  | some b =>
    cases b
    · rfl
    · simp only
      split
      · cases g c fs <;> rfl
      · rfl
def suiK : Out → Out
  | .exc _ _ _ => .stuck
  | o => o
@[simp] theorem suiK_r (v) : suiK (.ret v) = .ret v := rfl
@[simp] theorem suiK_n (v) : suiK (.next v) = .next v := rfl
def hdU (c : Nat) (fs : List (Str × PV)) (ρ : Env) (s : Env → Out) (r : List Hd) : Option Bool → Out
  | some true => suiK (s ρ)
  | some false => tryH c fs ρ r
  | none => .stuck
@[simp] theorem hdU_t (c fs ρ s r) : hdU c fs ρ s r (some true) = suiK (s ρ) := rfl
@[simp] theorem hdU_f (c fs ρ s r) : hdU c fs ρ s r (some false) = tryH c fs ρ r := rfl
@[simp] theorem tryH_un (c fs) (ρ : Env) (mt s r) : tryH c fs ρ (.un mt s :: r) = hdU c fs ρ s r (mt c) := by
  conv => lhs; unfold tryH
  unfold hdU
  cases mt c with
  | none => rfl
  | some b =>
    cases b
    · rfl
    · simp only
      cases s ρ <;> rfl
@[simp] theorem xC_S (v c fs) : xC v c fs = .ok v := rfl
@[simp] theorem xF_S (c0 f fs) : xF c0 f c0 fs = opt (lkF f fs) := if_pos rfl
@[simp] theorem lkF_S (f k v r) : lkF f ((k, v) :: r) = if f = k then some v else lkF f r := rfl
@[simp] theorem xNil_S (c fs) : xNil c fs = .ok [] := rfl
@[simp] theorem xCons_S (f r c fs) : xCons f r c fs = (f c fs).bind fun x => (r c fs).bind fun xs => .ok (x :: xs) := rfl
@[simp] theorem xTup_S (r c fs) : xTup r c fs = (r c fs).bind gTupV := rfl
end
/-! loops over what is written -/
def forK (t : Tg) (s : Env → Out) (vs : List PV) : Out → Out
  | .next r => forL t s vs r
  | .cont r => forL t s vs r
  | .brk r => .next r
  | .ret v => .ret v
  | .exc c fs r => .exc c fs r
  | .stuck => .stuck
@[simp] theorem forK_n (t s vs r) : forK t s vs (.next r) = forL t s vs r := rfl
@[simp] theorem forK_c (t s vs r) : forK t s vs (.cont r) = forL t s vs r := rfl
@[simp] theorem forK_b (t s vs r) : forK t s vs (.brk r) = .next r := rfl
@[simp] theorem forK_r (t s vs v) : forK t s vs (.ret v) = .ret v := rfl
@[simp] theorem forK_e (t s vs c fs r) : forK t s vs (.exc c fs r) = .exc c fs r := rfl
def forT (t : Tg) (s : Env → Out) (vs : List PV) (r : Env) : Option As → Out
  | some as => forK t s vs (s (setS as r))
  | none => .stuck
@[simp] theorem forT_s (t s vs r as) : forT t s vs r (some as) = forK t s vs (s (setS as r)) := rfl
theorem forL_S (t : Tg) (s : Env → Out) (v : PV) (vs : List PV) (r : Env) : forL t s (v :: vs) r = forT t s vs r (t v) := by
  conv => lhs; unfold forL
  unfold forT forK
  cases t v with
  | none => rfl
  | some as => cases s (setS as r) <;> rfl
/-! lists as pictures -/
theorem cutP_map {α β : Type} (f : α → β) (xs : List α) (lo hi : Option Int) : cutP (xs.map f) lo hi = (cutP xs lo hi).map f := by
  unfold cutP
  rw [List.length_map, ← List.map_drop, ← List.map_take]
theorem slP_map {α : Type} (f : α → PV) (xs : List α) (lo hi : Option Int) : slP (.lst (xs.map f)) lo hi = some (.lst ((cutP xs lo hi).map f)) := by
  rw [slP_l, cutP_map]
theorem addP_map {α : Type} {f : α → PV} {a b : List α} (h : a.length + b.length ≤ 16777216) : addP (.lst (a.map f)) (.lst (b.map f)) = some (.lst ((a ++ b).map f)) := by
  rw [addP_l, if_pos (by rw [szl]; simpa using h), List.map_append]
theorem lenP_map {α : Type} (f : α → PV) (xs : List α) : lenP [.lst (xs.map f)] = some (.int (xs.length : Int)) := by
  rw [lenP_l, List.length_map]
theorem ixP_map {α : Type} {f : α → PV} {xs : List α} {i : Nat} (d : α) (h : i < xs.length) : ixP (.lst (xs.map f)) (.int (i : Int)) = some (f (xs.getD i d)) := by
  rw [ixP_l, PH.atI_map, PH.atI_getD d h]
  rfl
/-- pictures of a kind, compared -/
structure EqF {α : Type} [DecidableEq α] (f : α → PV) (P : α → Prop) (n : Nat) : Prop where
  tm : ∀ a, P a → PV.tm n (f a) = true
  eq : ∀ a b, PV.eqv (f a) (f b) = decide (a = b)
theorem EqF.lst {α : Type} [DecidableEq α] {f : α → PV} {P : α → Prop} {n : Nat} (h : EqF f P n) {xs : List α} (hx : ∀ a ∈ xs, P a) : PV.tm (n + 1) (.lst (xs.map f)) = true := by
  rw [tm_l, tms_iff]
  intro x hx'
  obtain ⟨a, ha, rfl⟩ := List.mem_map.mp hx'
  exact h.tm a (hx a ha)
theorem EqF.eqs {α : Type} [DecidableEq α] {f : α → PV} {P : α → Prop} {n : Nat} (h : EqF f P n) {xs ys : List α} (hx : ∀ a ∈ xs, P a) (hy : ∀ a ∈ ys, P a) : PV.eqv (.lst (xs.map f)) (.lst (ys.map f)) = decide (xs = ys) := by
  rw [eqv_ll]
  exact eqvs_map (n := n) (fun _ _ => trivial) h.eq (fun a ha => h.tm a (hx a ha)) (fun a ha => h.tm a (hy a ha))
@[simp] theorem at_0 {α : Type} (x : α) (xs : List α) : atI (x :: xs) 0 = some x := by
  have := atI_nat' (xs := x :: xs) (i := 0) (by simp)
  simpa using this
@[simp] theorem at_1 {α : Type} (x y : α) (xs : List α) : atI (x :: y :: xs) 1 = some y := by
  have := atI_nat' (xs := x :: y :: xs) (i := 1) (by simp)
  simpa using this
@[simp] theorem at_2 {α : Type} (x y z : α) (xs : List α) : atI (x :: y :: z :: xs) 2 = some z := by
  have := atI_nat' (xs := x :: y :: z :: xs) (i := 2) (by simp)
  simpa using this
@[simp] theorem at_3 {α : Type} (x y z u : α) (xs : List α) : atI (x :: y :: z :: u :: xs) 3 = some u := by
  have := atI_nat' (xs := x :: y :: z :: u :: xs) (i := 3) (by simp)
  simpa using this
theorem lcL_ex {γ δ : Type} {t : Tg} {e : Ex} {ρ : Ev} (enc : γ → PV) (out : δ → PV) (P : δ → Prop) : ∀ (xs : List γ), (∀ x ∈ xs, ∃ as d, t (enc x) = some as ∧ e (setE as ρ) = .ok (out d) ∧ P d) →
    ∃ ds : List δ, lcL t cYes e ρ (xs.map enc) = .ok (ds.map out) ∧ ds.length = xs.length ∧ ∀ d ∈ ds, P d
  | [], _ => ⟨[], rfl, rfl, by simp⟩
  | x :: xs, H => by
    obtain ⟨as, d, e1, e2, e3⟩ := H x List.mem_cons_self
    obtain ⟨ds, f1, f2, f3⟩ := lcL_ex enc out P xs fun y hy => H y (List.mem_cons_of_mem _ hy)
    refine ⟨d :: ds, ?_, by simp [f2], fun y hy => ?_⟩
    · simp only [List.map_cons, lcL, e1, cYes_S, e2, f1]
    · rcases List.mem_cons.mp hy with h | h
      · rw [h]; exact e3
      · exact f3 y h
/-! loops -/
/-- for x in xs: g := f g x -/
theorem forL_fold {β γ : Type} {t : Tg} {s : Env → Out} {enc : β → PV} {f : γ → β → γ} (R : γ → Env → Prop) {xs : List β} {g0 : γ} {r0 : Env} (h0 : R g0 r0)
    (turn : ∀ (i : Nat) (x : β) (g : γ) (r : Env), xs[i]? = some x → g = (xs.take i).foldl f g0 → R g r → ∃ as r', t (enc x) = some as ∧ (s (setS as r) = .next r' ∨ s (setS as r) = .cont r') ∧ R (f g x) r') :
    ∃ r', forL t s (xs.map enc) r0 = .next r' ∧ R (xs.foldl f g0) r' := by
  refine forL_by (Q := fun o => ∃ r', o = .next r' ∧ R (xs.foldl f g0) r') (fun i r => R ((xs.take i).foldl f g0) r) (by simpa using h0) (fun i v r hv hi => ?_) (fun r hr => ?_)
  · obtain ⟨x, hx, rfl⟩ := PH.map_get hv
    obtain ⟨as, r', e1, e2, e3⟩ := turn i x _ r hx rfl hi
    refine ⟨as, e1, .inl ⟨r', e2, ?_⟩⟩
    rw [PH.take_succ' hx, List.foldl_append]
    exact e3
  · rw [List.length_map, List.take_length] at hr
    exact ⟨r, rfl, hr⟩
/-- how a turn ends that ends the loop -/
def isEnd : Out → Prop
  | .ret _ => True
  | .exc _ _ _ => True
  | _ => False
/-- for x in xs: if p x: return .. -/
theorem forL_find {β : Type} {t : Tg} {s : Env → Out} {enc : β → PV} (R : Env → Prop) (p : β → Bool) (Q : β → Out → Prop) {xs : List β} {r0 : Env} (h0 : R r0)
    (turn : ∀ (i : Nat) (x : β) (r : Env), xs[i]? = some x → R r → ∃ as, t (enc x) = some as ∧ ((p x = true ∧ isEnd (s (setS as r)) ∧ Q x (s (setS as r))) ∨ (p x = false ∧ ∃ r', (s (setS as r) = .next r' ∨ s (setS as r) = .cont r') ∧ R r'))) :
    (∃ x, xs.find? p = some x ∧ Q x (forL t s (xs.map enc) r0)) ∨ (xs.find? p = none ∧ ∃ r', forL t s (xs.map enc) r0 = .next r' ∧ R r') := by
  refine forL_by (Q := fun o => (∃ x, xs.find? p = some x ∧ Q x o) ∨ (xs.find? p = none ∧ ∃ r', o = .next r' ∧ R r')) (fun i r => R r ∧ ∀ x ∈ xs.take i, p x = false) ⟨h0, by simp⟩ (fun i v r hv hi => ?_) (fun r hr => ?_)
  · obtain ⟨x, hx, rfl⟩ := PH.map_get hv
    obtain ⟨as, e1, h⟩ := turn i x r hx hi.1
    refine ⟨as, e1, ?_⟩
    rcases h with ⟨hp, he, hq⟩ | ⟨hp, r', e2, e3⟩
    · have hf : xs.find? p = some x := by
        have hi1 : i < xs.length := by
          rcases Nat.lt_or_ge i xs.length with h | h
          · exact h
          · rw [List.getElem?_eq_none h] at hx; cases hx
        have e : xs = xs.take i ++ x :: xs.drop (i + 1) := by
          rw [List.getElem?_eq_getElem hi1] at hx
          cases hx
          rw [List.getElem_cons_drop, List.take_append_drop]
        rw [e, List.find?_append, List.find?_eq_none.mpr (fun y hy => by rw [hi.2 y hy]; simp)]
        simp [hp]
      cases ho : s (setS as r) with
      | ret v => rw [ho] at hq; exact .inr (.inr (.inl ⟨v, rfl, .inl ⟨x, hf, hq⟩⟩))
      | exc c fs r' => rw [ho] at hq; exact .inr (.inr (.inr ⟨c, fs, r', rfl, .inl ⟨x, hf, hq⟩⟩))
      | next _ => rw [ho] at he; exact he.elim
      | cont _ => rw [ho] at he; exact he.elim
      | brk _ => rw [ho] at he; exact he.elim
      | stuck => rw [ho] at he; exact he.elim
    · refine .inl ⟨r', e2, e3, fun y hy => ?_⟩
      rw [PH.take_succ' hx, List.mem_append] at hy
      rcases hy with hy | hy
      · exact hi.2 y hy
      · rw [List.mem_singleton] at hy; subst hy; exact hp
  · rw [List.length_map, List.take_length] at hr
    exact .inr ⟨List.find?_eq_none.mpr fun y hy => by rw [hr.2 y hy]; simp, r, rfl, hr.1⟩
theorem rangeP_map (n : Nat) : rangeP 0 n = (List.range n).map fun (i : Nat) => PV.int ((i : Nat) : Int) := by
  unfold rangeP
  refine List.map_congr_left fun i _ => ?_
  rw [Int.zero_add]
theorem range_at {n i x : Nat} (h : (List.range n)[i]? = some x) : x = i ∧ i < n := by
  rcases Nat.lt_or_ge i n with h1 | h1
  · rw [List.getElem?_range h1] at h; cases h; exact ⟨rfl, h1⟩
  · rw [List.getElem?_eq_none (by simpa using h1)] at h; cases h
end VL
namespace WY
open PySem PySem.Spec PyProof.Rows L2 VL PF PH
/-! ### directions -/
abbrev Dr := Int × Int
def encD (d : Dr) : PV := .tup [.int d.1, .int d.2]
def crs (a b : Dr) : Int := a.1 * b.2 - a.2 * b.1
def dt (a b : Dr) : Int := a.1 * b.1 + a.2 * b.2
def Sm (d : Dr) : Prop := (-1000000000000 < d.1 ∧ d.1 < 1000000000000) ∧ (-1000000000000 < d.2 ∧ d.2 < 1000000000000)
theorem encD_0 (d : Dr) : ixP (encD d) (.int 0) = some (.int d.1) := rfl
theorem encD_1 (d : Dr) : ixP (encD d) (.int 1) = some (.int d.2) := rfl
theorem nol_D (d : Dr) : PV.nol (encD d) = true := by simp [encD]
theorem mk1 {d : Dr} (h : Sm d) (x : Int) : mulOk x d.1 = true := mulOk_r ⟨by have := h.1.1; omega, by have := h.1.2; omega⟩
theorem mk2 {d : Dr} (h : Sm d) (x : Int) : mulOk x d.2 = true := mulOk_r ⟨by have := h.2.1; omega, by have := h.2.2; omega⟩
def S_cross (g : List PV → R PV) : Prop := ∀ a b : Dr, Sm b → g [encD a, encD b] = .ok (.int (crs a b))
theorem sp_cross (F : Nat → List PV → R PV) : S_cross fun us => outR (b_cross F (startE 2 us)) := by
  intro a b hb
  simp -implicitDefEqProofs [b_cross, encD_0, encD_1, mk1 hb, mk2 hb, crs]
def S_dot (g : List PV → R PV) : Prop := ∀ a b : Dr, Sm b → g [encD a, encD b] = .ok (.int (dt a b))
theorem sp_dot (F : Nat → List PV → R PV) : S_dot fun us => outR (b_dot F (startE 2 us)) := by
  intro a b hb
  simp -implicitDefEqProofs [b_dot, encD_0, encD_1, mk1 hb, mk2 hb, dt]
end WY
namespace WY
/-! ### the law's own order of directions -/
def ag (a d : Dr) : Dr := (d.1 * a.2 - d.2 * a.1, d.1 * a.1 + d.2 * a.2)
theorem nz_sq {a : Dr} (h : a ≠ (0, 0)) : 0 < a.1 * a.1 + a.2 * a.2 := by
  have s1 : ∀ x : Int, 0 ≤ x * x := fun x => by
    rcases Int.le_total 0 x with h | h
    · exact Int.mul_nonneg h h
    · exact Int.mul_nonneg_of_nonpos_of_nonpos h h
  have s2 : ∀ x : Int, x ≠ 0 → 0 < x * x := fun x hx => by
    rcases Int.lt_trichotomy x 0 with h | h | h
    · exact Int.mul_pos_of_neg_of_neg h h
    · exact absurd h hx
    · exact Int.mul_pos h h
  by_cases c : a.1 = 0
  · have : a.2 ≠ 0 := fun z => h (by obtain ⟨a1, a2⟩ := a; simp only at c z; rw [c, z])
    have := s2 _ this
    have := s1 a.1
    omega
  · have := s2 _ c
    have := s1 a.2
    omega
end WY
namespace WY
open PySem PySem.Spec PyProof.Rows L2 VL PF PH
/-! ### checks of directions -/
theorem tm_D (n : Nat) (d : Dr) : PV.tm (n + 1) (encD d) = true := by
  unfold encD
  rw [tm_t, tms_S, tms_S, tms_0, tm_i, tm_i]
  rfl
theorem eqv_D (a b : Dr) : PV.eqv (encD a) (encD b) = decide (a = b) := by
  unfold encD
  rw [eqv_tt]
  obtain ⟨a1, a2⟩ := a
  obtain ⟨b1, b2⟩ := b
  show PyData.eqvAll [.int a1, .int a2] [.int b1, .int b2] = _
  rw [Bool.eq_iff_iff]
  simp [PyData.eqvAll, PyData.eqv]
theorem eqB_D (a b : Dr) : eqB (encD a) (encD b) = some (decide (a = b)) := by
  rw [eqB_tm (tm_D 63 a) (tm_D 63 b), eqv_D]
theorem enc00 : PV.tup [.int 0, .int 0] = encD (0, 0) := rfl
def S_is_way (g : List PV → R PV) : Prop := ∀ d : Dr, g [encD d] = .ok (.bl (!decide (d = (0, 0))))
theorem sp_is_way (F : Nat → List PV → R PV) : S_is_way fun us => outR (b_is_way F (startE 2 us)) := by
  intro d
  have e1 : lcL (tN 1) cYes (b_is_way_0 F) [some (encD d), none] [.int d.1, .int d.2] = .ok [.bl true, .bl true] := by
    have := lcL_map (t := tN 1) (e := b_is_way_0 F) (ρ := [some (encD d), none]) PV.int (fun _ => PV.bl true) [d.1, d.2] fun x _ => ⟨_, rfl, by simp -implicitDefEqProofs [b_is_way_0]⟩
    exact this
  have e2 : inB (.bl false) (.lst [.bl true, .bl true]) = some false := rfl
  have e3 : itemsP (encD d) = .ok [.int d.1, .int d.2] := rfl
  have e4 : isaP [encD d, .ty "tuple"] = some (.bl true) := by unfold encD; rw [isa_S, tyName_t]; simp
  have e5 : lenP [encD d] = some (.int 2) := rfl
  simp -implicitDefEqProofs [b_is_way, e1, e2, e3, e4, e5, szl, enc00, eqB_D, -isa_S]
def encDs (ds : List Dr) : PV := .lst (ds.map encD)
def bw (k : Int) : List (Str × PV) := [("number", .int k), ("label", .str "BadWay")]
theorem mk_bw (k : Int) : mkFs 1 sp_BadWay [.int k] = some (bw k) := by
  unfold mkFs
  rw [if_pos ⟨rfl, by decide⟩]
  rfl
/-- the first direction that is none -/
def badW (ds : List Dr) : Option Nat := (List.range ds.length).find? fun i => decide (ds.getD i (0, 0) = (0, 0))
def S_ways (g : List PV → R PV) : Prop := ∀ (ds : List Dr) (f : Int), ds.length ≤ 1000000 → g [encDs ds, .int f] = match badW ds with
  | some k => .exc 8 (bw (f + (k : Int)))
  | none => .ok .non
theorem encDs_ix {ds : List Dr} {i : Nat} (h : i < ds.length) : ixP (encDs ds) (.int (i : Int)) = some (encD (ds.getD i (0, 0))) := by
  show atI (ds.map encD) (i : Int) = _
  rw [atI_map, atI_getD (0, 0) h]
  rfl
theorem sp_ways {F : Nat → List PV → R PV} (h1 : S_is_way (F 382)) : S_ways fun us => outR (b_check_ways F (startE 3 us)) := by
  intro ds f hl
  have lenD : lenP [encDs ds] = some (.int ds.length) := by
    show some (PV.int ((ds.map encD).length : Int)) = _
    rw [List.length_map]
  have hrg : rg1 (ds.length : Int) = .ok (rangeP 0 ds.length) := rg1_nat (by omega)
  have T : (∃ k r', badW ds = some k ∧ forL (tN 2) (b_check_ways_0 F) (rangeP 0 ds.length) [.fz (encDs ds), .fz (.int f), .no] = .exc 8 (bw (f + (k : Int))) r') ∨ ∃ r', badW ds = none ∧ forL (tN 2) (b_check_ways_0 F) (rangeP 0 ds.length) [.fz (encDs ds), .fz (.int f), .no] = .next r' := by
    refine forL_by (Q := fun o => (∃ k r', badW ds = some k ∧ o = .exc 8 (bw (f + (k : Int))) r') ∨ ∃ r', badW ds = none ∧ o = .next r') (fun i r => (∃ x, r = [.fz (encDs ds), .fz (.int f), x]) ∧ ∀ j < i, ds.getD j (0, 0) ≠ (0, 0)) ⟨⟨_, rfl⟩, fun j hj => by omega⟩ (fun i v r hv hi => ?_) (fun r hr => ?_)
    · obtain ⟨hi1, rfl⟩ := rangeP_get hv
      obtain ⟨⟨x, rfl⟩, hno⟩ := hi
      refine ⟨_, rfl, ?_⟩
      have e2 : setS [(2, PV.int (0 + (i : Int)))] [.fz (encDs ds), .fz (.int f), x] = [.fz (encDs ds), .fz (.int f), .fz (.int (i : Int))] := by simp
      rw [e2]
      have hw := h1 (ds.getD i (0, 0))
      have hix := encDs_ix hi1
      generalize hg : ds.getD i (0, 0) = w at *
      by_cases hb : w = (0, 0)
      · refine .inr (.inr (.inr ⟨8, bw (f + (i : Int)), [.fz (encDs ds), .fz (.int f), .fz (.int (i : Int))], by rw [decide_eq_true hb] at hw; simp -implicitDefEqProofs [b_check_ways_0, hix, hw, mk_bw], .inl ⟨i, _, ?_, rfl⟩⟩))
        unfold badW
        rw [List.find?_range_eq_some]
        exact ⟨by rw [hg, hb]; simp, by simpa using hi1, fun j hj => by simpa using hno j hj⟩
      · refine .inl ⟨_, .inl (by rw [decide_eq_false hb] at hw; simp -implicitDefEqProofs [b_check_ways_0, hix, hw]; rfl), ⟨_, rfl⟩, fun j hj => ?_⟩
        by_cases hji : j = i
        · subst hji; rw [hg]; exact hb
        · exact hno j (by omega)
    · refine .inr ⟨r, ?_, rfl⟩
      unfold badW
      rw [List.find?_range_eq_none]
      intro j hj
      have := hr.2 j (by simpa using hj)
      simpa using this
  rcases T with ⟨k, r', e1, e2⟩ | ⟨r', e1, e2⟩
  · rw [e1]
    simp -implicitDefEqProofs [b_check_ways, lenD, hrg, e2]
  · rw [e1]
    simp -implicitDefEqProofs [b_check_ways, lenD, hrg, e2]
end WY
namespace WY
open PySem PySem.Spec PyProof.Rows L2 VL PF PH
/-! ### gcd_of -/
def S_gcd (g : List PV → R PV) : Prop := ∀ a b : Nat, g [.int (a : Int), .int (b : Int)] = .ok (.int (Nat.gcd a b : Int))
theorem gcd_step (a b : Nat) : Nat.gcd b (a % b) = Nat.gcd a b := by
  rw [Nat.gcd_comm a b, Nat.gcd_rec b a, Nat.gcd_comm]
theorem sp_gcd (F : Nat → List PV → R PV) : S_gcd fun us => outR (b_gcd_of F (startE 2 us)) := by
  intro a b
  have loop : sWhile [] (b_gcd_of_0 F) (b_gcd_of_1 F) [.fz (.int (a : Int)), .fz (.int (b : Int))] = .next [.fz (.int (Nat.gcd a b : Int)), .fz (.int 0)] := by
    refine sWhile_by (Q := fun o => o = .next [.fz (.int (Nat.gcd a b : Int)), .fz (.int 0)])
      (fun m r => ∃ x y : Nat, r = [.fz (.int (x : Int)), .fz (.int (y : Int))] ∧ m = y ∧ Nat.gcd x y = Nat.gcd a b) ?_ (m := b) ⟨a, b, rfl, rfl, rfl⟩
    rintro m r ⟨x, y, rfl, rfl, hg⟩
    by_cases c : 0 < m
    · have c' : (0 : Int) < (m : Int) := by omega
      refine .inr ⟨by simp -implicitDefEqProofs [b_gcd_of_0, c], .inl ⟨x % m, [.fz (.int (m : Int)), .fz (.int ((x : Int) % (m : Int)))], Nat.mod_lt _ c, .inl (by simp -implicitDefEqProofs [b_gcd_of_1, c]), m, x % m, rfl, rfl, by rw [gcd_step, hg]⟩⟩
    · have h0 : m = 0 := by omega
      subst h0
      refine .inl ⟨by simp -implicitDefEqProofs [b_gcd_of_0], ?_⟩
      rw [← hg, Nat.gcd_zero_right]
      rfl
  simp -implicitDefEqProofs [b_gcd_of, loop]
end WY
namespace WY
open PySem PySem.Spec PyProof.Rows L2 VL PF PH
/-! ### Euclid by turns: _law_lowest -/
theorem half_mod {x y : Nat} (h0 : 0 < y) (h : y < x) : 2 * (x % y) ≤ x := by
  have h1 := Nat.mod_lt x h0
  have h2 := Nat.div_add_mod x y
  have h3 : 1 ≤ x / y := by
    rw [Nat.le_div_iff_mul_le h0]; omega
  have h4 : y * 1 ≤ y * (x / y) := Nat.mul_le_mul_left _ h3
  omega
theorem low_loop {F : Nat → List PV → R PV} {body : VL.Env → Out} (hbody : body = b__law_lowest_v1_0 F) {x0 y0 : Nat} (hB : y0 * y0 < 2 ^ 399) (t bt : Sl) :
    ∃ s4 s5, forL (tN 4) body (rangeP 0 400) [t, bt, .fz (.int (x0 : Int)), .fz (.int (y0 : Int)), .no, .no] = .next [t, bt, .fz (.int (Nat.gcd x0 y0 : Int)), .fz (.int 0), s4, s5] := by
  subst hbody
  refine forL_by (Q := fun o => ∃ s4 s5, o = .next [t, bt, .fz (.int (Nat.gcd x0 y0 : Int)), .fz (.int 0), s4, s5])
    (fun i r => ∃ (x y : Nat) (s4 s5 : Sl), r = [t, bt, .fz (.int (x : Int)), .fz (.int (y : Int)), s4, s5] ∧ Nat.gcd x y = Nat.gcd x0 y0 ∧ ((i = 0 ∧ y = y0) ∨ (1 ≤ i ∧ y < x ∧ x * y * 2 ^ (i - 1) ≤ y0 * y0)))
    ⟨x0, y0, _, _, rfl, rfl, .inl ⟨rfl, rfl⟩⟩ (fun i v r hv hi => ?_) (fun r hr => ?_)
  · obtain ⟨hi1, rfl⟩ := rangeP_get hv
    obtain ⟨x, y, s4, s5, rfl, hg, hc⟩ := hi
    refine ⟨_, rfl, ?_⟩
    have e2 : setS [(4, PV.int (0 + (i : Int)))] [t, bt, .fz (.int (x : Int)), .fz (.int (y : Int)), s4, s5] = [t, bt, .fz (.int (x : Int)), .fz (.int (y : Int)), .fz (.int (i : Int)), s5] := by simp
    rw [e2]
    by_cases h0 : y = 0
    · subst h0
      refine .inr (.inl ⟨[t, bt, .fz (.int (x : Int)), .fz (.int 0), .fz (.int (i : Int)), s5], by simp -implicitDefEqProofs [b__law_lowest_v1_0], .fz (.int (i : Int)), s5, ?_⟩)
      rw [← hg, Nat.gcd_zero_right]
    · have hp : 0 < y := by omega
      have hz : ¬ (y : Int) = 0 := by omega
      refine .inl ⟨[t, bt, .fz (.int (y : Int)), .fz (.int ((x : Int) % (y : Int))), .fz (.int (i : Int)), .fz (.int ((x : Int) % (y : Int)))], .inl (by simp -implicitDefEqProofs [b__law_lowest_v1_0, h0, hz, hp]), y, x % y, _, _, rfl, by rw [gcd_step, hg], .inr ⟨by omega, Nat.mod_lt _ hp, ?_⟩⟩
      rw [Nat.add_sub_cancel]
      rcases hc with ⟨rfl, rfl⟩ | ⟨k1, k2, k3⟩
      · rw [Nat.pow_zero, Nat.mul_one]
        exact Nat.mul_le_mul_left _ (Nat.le_of_lt (Nat.mod_lt _ hp))
      · have h3 := half_mod hp k2
        obtain ⟨j, rfl⟩ : ∃ j, i = j + 1 := ⟨i - 1, by omega⟩
        rw [Nat.add_sub_cancel] at k3
        have h4 : y * (x % y) * 2 ≤ x * y := by
          have := Nat.mul_le_mul_left y h3
          rw [Nat.mul_comm x y]
          calc y * (x % y) * 2 = y * (2 * (x % y)) := by rw [Nat.mul_assoc, Nat.mul_comm (x % y) 2]
            _ ≤ y * x := this
        calc y * (x % y) * 2 ^ (j + 1) = y * (x % y) * 2 * 2 ^ j := by rw [Nat.pow_succ, Nat.mul_assoc (y * (x % y)) 2, Nat.mul_comm 2 (2 ^ j)]
          _ ≤ x * y * 2 ^ j := Nat.mul_le_mul_right _ h4
          _ ≤ y0 * y0 := k3
  · obtain ⟨x, y, s4, s5, rfl, hg, hc⟩ := hr
    rw [rangeP_len] at hc
    have hy : y = 0 := by
      rcases hc with ⟨h, _⟩ | ⟨k1, k2, k3⟩
      · omega
      · by_cases h0 : y = 0
        · exact h0
        · exfalso
          have : 1 ≤ x * y := Nat.mul_pos (by omega) (by omega)
          have := Nat.mul_le_mul_right (2 ^ (400 - 1)) this
          rw [Nat.one_mul] at this
          exact absurd hB (by
            have e : (400 - 1 : Nat) = 399 := rfl
            rw [e] at this k3
            exact Nat.not_lt.mpr (Nat.le_trans this k3))
    subst hy
    rw [Nat.gcd_zero_right] at hg
    exact ⟨s4, s5, by rw [hg]; rfl⟩
end WY
namespace WY
open PySem PySem.Spec PyProof.Rows L2 VL PF PH
/-! ### between -/
theorem sp_cross_l (F : Nat → List PV → R PV) : S_cross fun us => outR (b__law_turn_of F (startE 2 us)) := by
  intro a b hb
  simp -implicitDefEqProofs [b__law_turn_of, encD_0, encD_1, mk1 hb, mk2 hb, crs]
/-- small enough for products -/
def Sx (d : Dr) : Prop := (-300000 ≤ d.1 ∧ d.1 ≤ 300000) ∧ (-300000 ≤ d.2 ∧ d.2 ≤ 300000)
theorem Sx.sm {d : Dr} (h : Sx d) : Sm d := by
  obtain ⟨⟨a, b⟩, c, e⟩ := h
  exact ⟨⟨by omega, by omega⟩, by omega, by omega⟩
theorem mul_bd {x y : Int} (hx : -300000 ≤ x ∧ x ≤ 300000) (hy : -300000 ≤ y ∧ y ≤ 300000) : -90000000000 ≤ x * y ∧ x * y ≤ 90000000000 := by
  have h : (x * y).natAbs ≤ 300000 * 300000 := by
    rw [Int.natAbs_mul]
    exact Nat.mul_le_mul (by omega) (by omega)
  omega
theorem Sx.ag {a d : Dr} (h : Sx a) (h' : Sx d) : Sm (WY.ag a d) := by
  have p1 := mul_bd h'.1 h.2
  have p2 := mul_bd h'.2 h.1
  have p3 := mul_bd h'.1 h.1
  have p4 := mul_bd h'.2 h.2
  unfold WY.ag Sm
  simp only
  omega
theorem Sx.dt {a d : Dr} (h : Sx a) (h' : Sx d) : -180000000000 ≤ WY.dt a d ∧ WY.dt a d ≤ 180000000000 := by
  have p3 := mul_bd h.1 h'.1
  have p4 := mul_bd h.2 h'.2
  unfold WY.dt
  omega
end WY
namespace WY
open PySem PySem.Spec PyProof.Rows L2 VL PF PH
/-! ### the order round from a direction -/
/-! the law's way of ordering -/
end WY
namespace WY
open PySem PySem.Spec PyProof.Rows L2 VL PF PH
/-! ### eighths -/
def ab (x : Int) : Int := if x < 0 then -x else x
theorem absP_ab (i : Int) : absP [.int i] = some (.int (ab i)) := rfl
/-! ### lowest terms -/
def lowT (t : Int) (b : Nat) : PV := .tup [.int (t / (Nat.gcd t.natAbs b : Int)), .int ((b : Int) / (Nat.gcd t.natAbs b : Int))]
def S_lowest (g : List PV → R PV) : Prop := ∀ (t : Int) (b : Nat), 0 < b → b < 100000000000000000000000000000000000000000000000000 → g [.int t, .int (b : Int)] = .ok (lowT t b)
theorem big50 {n : Nat} (h : n < 100000000000000000000000000000000000000000000000000) : (n : Int) < bigI := by
  have : (100000000000000000000000000000000000000000000000000 : Int) < bigI := by unfold bigI; decide +kernel
  omega
theorem ab_nat (t : Int) : ab t = (t.natAbs : Int) := by unfold ab; split <;> omega
theorem sp_lowest {F : Nat → List PV → R PV} (h1 : S_gcd (F 330)) : S_lowest fun us => outR (b_lowest F (startE 3 us)) := by
  intro t b hb hB
  have hg := Nat.gcd_pos_of_pos_right t.natAbs hb
  have hle := Nat.gcd_le_right t.natAbs hb
  have hbig := big50 (Nat.lt_of_le_of_lt hle hB)
  have e := h1 t.natAbs b
  have hg' : (0 : Int) < (Nat.gcd t.natAbs b : Int) := by omega
  unfold lowT
  generalize Nat.gcd t.natAbs b = G at *
  simp -implicitDefEqProofs [b_lowest, absP_ab, -absP_i, ab_nat, e, hg, hg', hbig, szl]
/-! ### places -/
def oor (k : Int) : List (Str × PV) := [("value", .int k), ("label", .str "OutOfRange")]
theorem mk_oor (k : Int) : mkFs 1 sp_OutOfRange [.int k] = some (oor k) := by
  unfold mkFs
  rw [if_pos ⟨rfl, by decide⟩]
  rfl
def inPl (x : Int) : Bool := decide (-100000 ≤ x) && decide (x ≤ 100000)
def S_place_ck (g : List PV → R PV) : Prop := ∀ d : Dr, g [encD d] = if inPl d.1 = false then .exc 17 (oor d.1) else if inPl d.2 = false then .exc 17 (oor d.2) else .ok .non
theorem sp_place_ck (F : Nat → List PV → R PV) : S_place_ck fun us => outR (b_check_place F (startE 2 us)) := by
  intro d
  obtain ⟨x, y⟩ := d
  have turn : ∀ (z : Int) (s : Sl), b_check_place_0 F [.fz (encD (x, y)), .fz (.int z)] = if inPl z = false then .exc 17 (oor z) [.fz (encD (x, y)), .fz (.int z)] else .next [.fz (encD (x, y)), .fz (.int z)] := by
    intro z s
    unfold inPl
    by_cases c1 : -100000 ≤ z
    · by_cases c2 : z ≤ 100000 <;> simp -implicitDefEqProofs [b_check_place_0, c_MOST_PLACE, c1, c2, mk_oor]
    · simp -implicitDefEqProofs [b_check_place_0, c_MOST_PLACE, c1, mk_oor]
  have e1 : itemsP (encD (x, y)) = .ok [.int x, .int y] := rfl
  have L : forL (tN 1) (b_check_place_0 F) [.int x, .int y] [.fz (encD (x, y)), .no] = if inPl x = false then .exc 17 (oor x) [.fz (encD (x, y)), .fz (.int x)] else if inPl y = false then .exc 17 (oor y) [.fz (encD (x, y)), .fz (.int y)] else .next [.fz (encD (x, y)), .fz (.int y)] := by
    unfold forL
    simp only [tN_S, setS_S, setS_0, List.set_cons_succ, List.set_cons_zero]
    rw [turn x .no]
    cases h : inPl x
    · simp
    · simp only [Bool.true_eq_false, if_false]
      unfold forL
      simp only [tN_S, setS_S, setS_0, List.set_cons_succ, List.set_cons_zero]
      rw [turn y .no]
      cases h : inPl y <;> simp
  simp only
  cases h1 : inPl x <;> cases h2 : inPl y <;> rw [h1] at L <;> simp only [h2, Bool.true_eq_false, if_false, if_true] at L ⊢ <;> simp -implicitDefEqProofs [b_check_place, e1, L]
end WY
namespace WY
open PySem PySem.Spec PyProof.Rows L2 VL PF PH
/-! ### the functions from outside -/
theorem badW_1 (a : Dr) : badW [a] = if a = (0, 0) then some 0 else none := by
  unfold badW
  by_cases h : a = (0, 0) <;> simp [h, List.range_succ]
theorem badW_2 (a b : Dr) : badW [a, b] = if a = (0, 0) then some 0 else if b = (0, 0) then some 1 else none := by
  unfold badW
  by_cases h : a = (0, 0) <;> by_cases h' : b = (0, 0) <;> simp [h, h', List.range_succ]
theorem badW_none {ws : List Dr} (h : ∀ w ∈ ws, w ≠ (0, 0)) : badW ws = none := by
  unfold badW
  rw [List.find?_range_eq_none]
  intro i hi
  have hm : ws.getD i (0, 0) ∈ ws := by
    rw [List.getD_eq_getElem?_getD, List.getElem?_eq_getElem hi]
    exact List.getElem_mem hi
  simpa using h _ hm
variable {F : Nat → List PV → R PV}
theorem ways_ok {g : List PV → R PV} (h : S_ways g) {ws : List Dr} {f : Int} (hl : ws.length ≤ 1000000) (hw : ∀ w ∈ ws, w ≠ (0, 0)) : g [.lst (ws.map encD), .int f] = .ok .non := by
  have := h ws f hl
  rw [badW_none hw] at this
  exact this
theorem ways_bad {g : List PV → R PV} (h : S_ways g) {ws : List Dr} {f : Int} {k : Nat} (hl : ws.length ≤ 1000000) (hw : badW ws = some k) : g [.lst (ws.map encD), .int f] = .exc 8 (bw (f + (k : Int))) := by
  have := h ws f hl
  rw [hw] at this
  exact this
theorem w1 {g : List PV → R PV} (h : S_ways g) {a : Dr} {f : Int} (ha : a ≠ (0, 0)) : g [.lst [encD a], .int f] = .ok .non := ways_ok h (ws := [a]) (by simp) (by simpa using ha)
theorem w1b {g : List PV → R PV} (h : S_ways g) {f : Int} : g [.lst [encD (0, 0)], .int f] = .exc 8 (bw f) := by
  have := ways_bad h (ws := [(0, 0)]) (f := f) (k := 0) (by simp) (by rw [badW_1, if_pos rfl])
  simpa using this
theorem w2 {g : List PV → R PV} (h : S_ways g) {a b : Dr} {f : Int} (ha : a ≠ (0, 0)) (hb : b ≠ (0, 0)) : g [.lst [encD a, encD b], .int f] = .ok .non := ways_ok h (ws := [a, b]) (by simp) (by simp [ha, hb])
theorem w2a {g : List PV → R PV} (h : S_ways g) {b : Dr} {f : Int} : g [.lst [encD (0, 0), encD b], .int f] = .exc 8 (bw f) := by
  have := ways_bad h (ws := [(0, 0), b]) (f := f) (k := 0) (by simp) (by rw [badW_2, if_pos rfl])
  simpa using this
theorem w2b {g : List PV → R PV} (h : S_ways g) {a : Dr} {f : Int} (ha : a ≠ (0, 0)) : g [.lst [encD a, encD (0, 0)], .int f] = .exc 8 (bw (f + 1)) := by
  have := ways_bad h (ws := [a, (0, 0)]) (f := f) (k := 1) (by simp) (by rw [badW_2, if_neg ha, if_pos rfl])
  simpa using this
theorem dt_self {a : Dr} (h : Sx a) (n : a ≠ (0, 0)) : 0 < dt a a ∧ dt a a ≤ 180000000000 := ⟨nz_sq n, (h.dt h).2⟩
def S_way_between (g : List PV → R PV) : Prop := ∀ a b : Dr, g [encD a, encD b] = .ok (encD (b.1 - a.1, b.2 - a.2))
theorem sp_way_between (F : Nat → List PV → R PV) : S_way_between fun us => outR (b_way_between F (startE 2 us)) := by
  intro a b
  simp -implicitDefEqProofs [b_way_between, encD_0, encD_1, szl]
  rfl
/-! the law's directions -/
def S_lway (g : List PV → R PV) : Prop := ∀ (c : Int) (w : Nat), w ≤ 100000 → ∃ d : Dr, g [.int c, .int (w : Int)] = .ok (encD d) ∧ d ≠ (0, 0) ∧ ((-(w : Int) ≤ d.1 ∧ d.1 ≤ w) ∧ (-(w : Int) ≤ d.2 ∧ d.2 ≤ w) ∨ (-1 ≤ d.1 ∧ d.1 ≤ 1) ∧ (-1 ≤ d.2 ∧ d.2 ≤ 1))
theorem sp_lway (h1 : S_draw (F 22)) : S_lway fun us => outR (b__law_way F (startE 4 us)) := by
  intro c w hw
  have l0 : ∀ i, i < 3 → nth [2 * (w : Int) + 1, 2 * (w : Int) + 1, 4] i = if i = 2 then 4 else 2 * (w : Int) + 1 := by
    intro i hi
    rcases i with _ | _ | _ | i
    · rfl
    · rfl
    · rfl
    · omega
  obtain ⟨row, e, hlen, hb⟩ := h1 c [2 * (w : Int) + 1, 2 * (w : Int) + 1, 4] (by simp) (by
    intro i hi
    rw [l0 i (by simpa using hi)]
    split <;> omega)
  match row, hlen with
  | [x, y, z], _ =>
    have b0 := hb 0 (by simp)
    have b1 := hb 1 (by simp)
    have b2 := hb 2 (by simp)
    rw [l0 0 (by omega)] at b0
    rw [l0 1 (by omega)] at b1
    rw [l0 2 (by omega)] at b2
    simp only [nth, List.getD_cons_zero, List.getD_cons_succ, if_true, show ¬ (0 = 2) by decide, show ¬ (1 = 2) by decide, if_false] at b0 b1 b2
    have m1 : mulOk 2 (w : Int) = true := mulOk_r ⟨by omega, by omega⟩
    simp only [List.map_cons, List.map_nil] at e
    by_cases hz : (x - w, y - w) = ((0, 0) : Dr)
    · have q : ∃ d : Dr, atI [PV.tup [.int 0, .int 1], .tup [.int 1, .int 0], .tup [.int 0, .int (-1)], .tup [.int (-1), .int 0]] z = some (encD d) ∧ d ≠ (0, 0) ∧ (-1 ≤ d.1 ∧ d.1 ≤ 1) ∧ (-1 ≤ d.2 ∧ d.2 ≤ 1) := by
        have : z = 0 ∨ z = 1 ∨ z = 2 ∨ z = 3 := by omega
        rcases this with rfl | rfl | rfl | rfl
        · exact ⟨(0, 1), rfl, by decide, by decide⟩
        · exact ⟨(1, 0), rfl, by decide, by decide⟩
        · exact ⟨(0, -1), rfl, by decide, by decide⟩
        · exact ⟨(-1, 0), rfl, by decide, by decide⟩
      obtain ⟨d, q1, q2, q3⟩ := q
      refine ⟨d, ?_, q2, .inr q3⟩
      have ee : PV.tup [.int (x - w), .int (y - w)] = encD (0, 0) := by rw [← hz]; rfl
      have e0 : PV.tup [.int 0, .int 0] = encD (0, 0) := rfl
      simp -implicitDefEqProofs [b__law_way, m1, e, szl, ee, e0, eqB_D, q1]
    · refine ⟨(x - w, y - w), ?_, hz, .inl ⟨⟨?_, ?_⟩, ?_, ?_⟩⟩
      · have ee : PV.tup [.int (x - w), .int (y - w)] = encD (x - w, y - w) := rfl
        have e0 : PV.tup [.int 0, .int 0] = encD (0, 0) := rfl
        have hz' : decide ((x - (w : Int), y - (w : Int)) = ((0, 0) : Dr)) = false := decide_eq_false hz
        generalize (x - (w : Int), y - (w : Int)) = dd at *
        simp -implicitDefEqProofs [b__law_way, m1, e, szl, ee, e0, eqB_D, hz']
      all_goals (simp only; omega)
end WY
namespace VL
open PySem PySem.Spec PyProof.Rows L2
/-! in of plain lists -/
end VL
namespace WY
open PySem PySem.Spec PyProof.Rows L2 VL PF PH
/-! ### lines -/
def sub (a b : Dr) : Dr := (a.1 - b.1, a.2 - b.2)
/-- near enough -/
def Nr (d : Dr) : Prop := (-150000 ≤ d.1 ∧ d.1 ≤ 150000) ∧ (-150000 ≤ d.2 ∧ d.2 ≤ 150000)
theorem Nr.sub {a b : Dr} (h : Nr a) (h' : Nr b) : Sx (WY.sub a b) := by
  obtain ⟨⟨a1, a2⟩, a3, a4⟩ := h
  obtain ⟨⟨b1, b2⟩, b3, b4⟩ := h'
  exact ⟨⟨by simp only [WY.sub]; omega, by simp only [WY.sub]; omega⟩, by simp only [WY.sub]; omega, by simp only [WY.sub]; omega⟩
theorem Sx.crs {a d : Dr} (h : Sx a) (h' : Sx d) : -180000000000 ≤ WY.crs a d ∧ WY.crs a d ≤ 180000000000 := by
  have p3 := mul_bd h.1 h'.2
  have p4 := mul_bd h.2 h'.1
  unfold WY.crs
  omega
theorem wb {g : List PV → R PV} (h : S_way_between g) (a b : Dr) : g [encD a, encD b] = .ok (encD (sub b a)) := h a b
def wordS (x : Int) : Str := if x = 0 then "on" else if 0 < x then "left" else "right"
def S_word_of (g : List PV → R PV) : Prop := ∀ x : Int, g [.int x] = .ok (.str (wordS x))
theorem sp_word_of (F : Nat → List PV → R PV) : S_word_of fun us => outR (b_word_of_v1 F (startE 1 us)) := by
  intro x
  unfold wordS
  by_cases c : x = 0
  · simp -implicitDefEqProofs [b_word_of_v1, c]
  · by_cases c2 : 0 < x <;> simp -implicitDefEqProofs [b_word_of_v1, c, c2]
def offV (p w s : Dr) : PV := .tup [.str (wordS (crs w (sub s p))), lowT (crs w (sub s p) * crs w (sub s p)) (dt w w).toNat]
def S_off_by (g : List PV → R PV) : Prop := ∀ p w s : Dr, Nr p → Nr s → Sx w → w ≠ (0, 0) → g [encD p, encD w, encD s] = .ok (offV p w s)
theorem sp_off_by {F : Nat → List PV → R PV} (h1 : S_way_between (F 646)) (h2 : S_cross (F 285)) (h3 : S_word_of (F 659)) (h4 : S_lowest (F 453)) (h5 : S_dot (F 296)) : S_off_by fun us => outR (b_off_by F (startE 4 us)) := by
  intro p w s hp hs hw nw
  have d1 := dt_self hw nw
  have c1 := hw.crs (hs.sub hp)
  have e4 := h4 (crs w (sub s p) * crs w (sub s p)) (dt w w).toNat (by omega) (by omega)
  rw [Int.toNat_of_nonneg (by omega)] at e4
  have m1 : mulOk (crs w (sub s p)) (crs w (sub s p)) = true := mulOk_l ⟨by omega, by omega⟩
  unfold offV
  simp -implicitDefEqProofs [b_off_by, wb h1, h2 w (sub s p) (hs.sub hp).sm, h3 (crs w (sub s p)), h5 w w hw.sm, e4, m1, szl]
/-- both numbers in range -/
def plB (d : Dr) : Bool := inPl d.1 && inPl d.2
theorem pl_ok {g : List PV → R PV} (h : S_place_ck g) {d : Dr} (hd : plB d = true) : g [encD d] = .ok .non := by
  rw [h d]
  unfold plB at hd
  rw [Bool.and_eq_true] at hd
  rw [hd.1, hd.2]
  rfl
theorem pl_bad {g : List PV → R PV} (h : S_place_ck g) {d : Dr} (hd : inPl d.1 = false) : g [encD d] = .exc 17 (oor d.1) := by
  rw [h d, if_pos hd]
/-! courses -/
theorem max_le (x y m : Int) : (decide ((if y > x then y else x) ≤ m)) = (decide (x ≤ m) && decide (y ≤ m)) := by
  rw [Bool.eq_iff_iff]
  simp only [Bool.and_eq_true, decide_eq_true_eq]
  split <;> omega
/-! the law's ships -/
def S_lship (g : List PV → R PV) : Prop := ∀ (c : Int) (w : Nat), w ≤ 100000 → ∃ d : Dr, g [.int c, .int (w : Int)] = .ok (encD d) ∧ (-(w : Int) ≤ d.1 ∧ d.1 ≤ w) ∧ (-(w : Int) ≤ d.2 ∧ d.2 ≤ w)
theorem sp_lship {F : Nat → List PV → R PV} (h1 : S_draw (F 22)) : S_lship fun us => outR (b__law_ship F (startE 3 us)) := by
  intro c w hw
  have l0 : ∀ i, i < 2 → nth [2 * (w : Int) + 1, 2 * (w : Int) + 1] i = 2 * (w : Int) + 1 := by
    intro i hi
    rcases i with _ | _ | i
    · rfl
    · rfl
    · omega
  obtain ⟨row, e, hlen, hb⟩ := h1 c [2 * (w : Int) + 1, 2 * (w : Int) + 1] (by simp) (by
    intro i hi
    rw [l0 i (by simpa using hi)]
    omega)
  match row, hlen with
  | [x, y], _ =>
    have b0 := hb 0 (by simp)
    have b1 := hb 1 (by simp)
    rw [l0 0 (by omega)] at b0
    rw [l0 1 (by omega)] at b1
    simp only [nth, List.getD_cons_zero, List.getD_cons_succ] at b0 b1
    have m1 : mulOk 2 (w : Int) = true := mulOk_r ⟨by omega, by omega⟩
    simp only [List.map_cons, List.map_nil] at e
    refine ⟨(x - w, y - w), ?_, ⟨?_, ?_⟩, ?_, ?_⟩
    · simp -implicitDefEqProofs [b__law_ship, m1, e, szl]
      rfl
    all_goals (simp only; omega)
/-! lowest terms of the law, of any sign -/
theorem low_loop0 {F : Nat → List PV → R PV} {x0 y0 : Nat} (hB : y0 * y0 < 2 ^ 399) (t bt : Sl) :
    ∃ s4 s5, forL (tN 4) (b__law_lowest_v0_0 F) (rangeP 0 400) [t, bt, .fz (.int (x0 : Int)), .fz (.int (y0 : Int)), .no, .no] = .next [t, bt, .fz (.int (Nat.gcd x0 y0 : Int)), .fz (.int 0), s4, s5] := low_loop (F := F) (body := b__law_lowest_v0_0 F) rfl hB t bt
def llowV (t b : Int) : PV := if b < 0 then .tup [.int ((-t) / (Nat.gcd t.natAbs b.natAbs : Int)), .int ((-b) / (Nat.gcd t.natAbs b.natAbs : Int))] else .tup [.int (t / (Nat.gcd t.natAbs b.natAbs : Int)), .int (b / (Nat.gcd t.natAbs b.natAbs : Int))]
def S_llow (g : List PV → R PV) : Prop := ∀ t b : Int, b ≠ 0 → b.natAbs < 100000000000000000000000000000000000000000000000000 → g [.int t, .int b] = .ok (llowV t b)
theorem sp_llow (F : Nat → List PV → R PV) : S_llow fun us => outR (b__law_lowest_v0 F (startE 6 us)) := by
  intro t b hb hB
  have hg := Nat.gcd_pos_of_pos_right t.natAbs (show 0 < b.natAbs by omega)
  have hle := Nat.gcd_le_right t.natAbs (show 0 < b.natAbs by omega)
  have hbig := big50 (Nat.lt_of_le_of_lt hle hB)
  have h2 : b.natAbs * b.natAbs < 2 ^ 399 := Nat.lt_of_le_of_lt (Nat.mul_le_mul (Nat.le_of_lt hB) (Nat.le_of_lt hB)) (by decide +kernel)
  obtain ⟨s4, s5, e⟩ := low_loop0 (F := F) (x0 := t.natAbs) h2 (.fz (.int t)) (.fz (.int b))
  have hg' : (0 : Int) < (Nat.gcd t.natAbs b.natAbs : Int) := by omega
  unfold llowV
  generalize Nat.gcd t.natAbs b.natAbs = G at *
  have r4 : rg1 400 = .ok (rangeP 0 400) := rg1_nat (n := 400) (by decide)
  by_cases hn : b < 0
  · rw [if_pos hn]
    have n1 : ¬ (0 : Int) < -(G : Int) := by omega
    have n2 : -(G : Int) < 0 := by omega
    have n3 : -bigI < -(G : Int) := by omega
    have n4 : - -(G : Int) = (G : Int) := by omega
    have n5 : ¬ (G : Int) < 0 := by omega
    have n6 : (G : Int) ≠ 0 := by omega
    simp -implicitDefEqProofs [b__law_lowest_v0, absP_ab, -absP_i, ab_nat, e, r4, hn, n1, n2, n3, n4, n5, n6, hbig, hg, hg', szl]
  · rw [if_neg hn]
    simp -implicitDefEqProofs [b__law_lowest_v0, absP_ab, -absP_i, ab_nat, e, r4, hn, hbig, hg, hg', szl]
theorem low_nn {t : Int} {b : Nat} : llowV t (b : Int) = lowT t b := by
  unfold llowV lowT
  rw [if_neg (by omega)]
  rfl
theorem low_neg {t b : Int} (hb : b < 0) : llowV t b = llowV (-t) (-b) := by
  unfold llowV
  rw [if_pos hb, if_neg (by omega), Int.natAbs_neg, Int.natAbs_neg]
end WY
namespace WY
open PySem PySem.Spec PyProof.Rows L2 VL PF PH
variable {F : Nat → List PV → R PV}
/-- a line of the law, and a ship -/
structure Ln (f r : Dr) : Prop where
  ne : f ≠ r
  pf : plB f = true
  pr : plB r = true
  nf : Nr f
  nr : Nr r
theorem Ln.look {f r : Dr} (h : Ln f r) : Sx (sub r f) ∧ sub r f ≠ (0, 0) := ⟨h.nr.sub h.nf, fun z => h.ne (by
  obtain ⟨f1, f2⟩ := f
  obtain ⟨r1, r2⟩ := r
  simp only [sub, Prod.mk.injEq] at z ⊢
  omega)⟩
/-! crossing the line -/
/-! speeds on the line -/
theorem eD (x y : Int) : PV.tup [.int x, .int y] = encD (x, y) := rfl
/-! rocks -/
theorem word_on (x : Int) : wordS x = "on" ↔ x = 0 := by
  unfold wordS
  split
  · rename_i h; simp [h]
  · rename_i h
    split
    · exact ⟨fun z => absurd z (by decide +kernel), fun z => absurd z h⟩
    · exact ⟨fun z => absurd z (by decide +kernel), fun z => absurd z h⟩
end WY
namespace WY
open PySem PySem.Spec PyProof.Rows L2 VL PF PH
/-! ### told values -/
def vV (x : PV) : PV := .tup [.str "value", x]
theorem vV_S (x : PV) : PV.tup [.str "value", x] = vV x := rfl
theorem vV_0 (x : PV) : ixP (vV x) (.int 0) = some (.str "value") := rfl
theorem vV_1 (x : PV) : ixP (vV x) (.int 1) = some x := rfl
theorem tmV {x : PV} (h : PV.tm 63 x = true) : PV.tm 64 (vV x) = true := by
  unfold vV
  rw [tm_t, tms_S, tms_S, tms_0, tm_s, h]
  decide +kernel
theorem ok_of {x : PV} (h : PV.tm 63 x = true) : eqB (vV x) (vV x) = some true := eqB_self (tmV h)
theorem ok_b (b : Bool) : eqB (vV (.bl b)) (vV (.bl b)) = some true := ok_of (tm_b _ _)
theorem tm_low (n : Nat) (t : Int) (b : Nat) : PV.tm (n + 1) (lowT t b) = true := by unfold lowT; rw [tm_t, tms_S, tms_S, tms_0, tm_i, tm_i]; rfl
/-- a word and a number -/
def wi (w : Str) (k : Int) : PV := .tup [.str w, .int k]
theorem wi_S (w : Str) (k : Int) : PV.tup [.str w, .int k] = wi w k := rfl
theorem ok_wi {w : Str} (h : okS w = true) (k : Int) : eqB (wi w k) (wi w k) = some true := eqB_self (by unfold wi; rw [tm_t, tms_S, tms_S, tms_0, tm_s, tm_i, h]; rfl)
theorem lk_v (k : Int) : lkF "value" (oor k) = some (.int k) := by unfold oor lkF; rw [if_pos rfl]
theorem lk_n (k : Int) : lkF "number" (bw k) = some (.int k) := by unfold bw lkF; rw [if_pos rfl]
end WY
namespace VL
open PySem PySem.Spec PyProof.Rows L2
/-! in of lists of tuples -/
theorem dataIn_tm {x : PV} {xs : List PV} (hx : PV.tm 64 x = true) (hs : PV.tms 63 xs = true) : dataIn x xs = some (xs.any fun y => PV.eqv y x) := by
  have hl : PV.tm 64 (.lst xs) = true := by rw [tm_l]; exact hs
  unfold dataIn
  unfold PV.tm at hx hl
  cases e1 : x.data with
  | none => rw [e1] at hx; cases hx
  | some d =>
    rw [e1] at hx
    simp only [PV.data] at hl
    cases e2 : PV.datas xs with
    | none => rw [e2] at hl; simp at hl
    | some ds =>
      rw [e2] at hl
      simp only [Option.map_some] at hl
      simp only
      rw [if_pos ⟨hx, hl⟩]
      congr 1
      have gen : ∀ (xs : List PV) (ds : List PyData), PV.datas xs = some ds → (ds.any fun z => PyData.eqv z d) = xs.any fun y => PV.eqv y x := by
        intro xs
        induction xs with
        | nil => intro ds h; simp only [PV.datas, Option.some.injEq] at h; subst h; rfl
        | cons y ys ih =>
          intro ds h
          simp only [PV.datas, Option.bind_eq_some_iff, Option.map_eq_some_iff] at h
          obtain ⟨a, h1, b, h2, rfl⟩ := h
          rw [List.any_cons, List.any_cons, ih b h2]
          congr 1
          unfold PV.eqv
          rw [h1, e1]
      exact gen xs ds e2
theorem inB_tm {x : PV} {xs : List PV} (hf : flatP x = false) (hx : PV.tm 64 x = true) (hs : PV.tms 63 xs = true) : inB x (.lst xs) = some (xs.any fun y => PV.eqv y x) := by
  show (if flatP x = true ∧ xs.all flatP = true then _ else dataIn x xs) = _
  rw [if_neg (by rw [hf]; simp), dataIn_tm hx hs]
end VL
namespace WY
open PySem PySem.Spec PyProof.Rows L2 VL PF PH
theorem inB_D (d : Dr) (ds : List Dr) : inB (encD d) (.lst (ds.map encD)) = some (decide (d ∈ ds)) := by
  rw [inB_tm rfl (tm_D 63 d) (tms_iff.mpr fun x hx => by
    obtain ⟨a, _, rfl⟩ := List.mem_map.mp hx
    exact tm_D 62 a)]
  congr 1
  rw [Bool.eq_iff_iff]
  simp only [List.any_map, List.any_eq_true, Function.comp, eqv_D, decide_eq_true_eq]
  exact ⟨fun ⟨a, b, c⟩ => by rw [← c]; exact b, fun h => ⟨d, h, rfl⟩⟩
/-! ### crossings of lines -/
/-- a place told by two ratios -/
structure Q2 where
  x : Int
  u : Int
  y : Int
  v : Int
  deriving DecidableEq
def encQ (q : Q2) : PV := .tup [.tup [.int q.x, .int q.u], .tup [.int q.y, .int q.v]]
structure Q2.Ok (q : Q2) : Prop where
  u0 : 0 < q.u
  v0 : 0 < q.v
  u1 : q.u ≤ 10000
  v1 : q.v ≤ 10000
  x0 : -10000000 ≤ q.x
  x1 : q.x ≤ 10000000
  y0 : -10000000 ≤ q.y
  y1 : q.y ≤ 10000000
theorem encQ_0 (q : Q2) : ixP (encQ q) (.int 0) = some (.tup [.int q.x, .int q.u]) := rfl
theorem encQ_1 (q : Q2) : ixP (encQ q) (.int 1) = some (.tup [.int q.y, .int q.v]) := rfl
/-- where two lines meet: the numerator and the denominator of one part -/
def lowN (t b : Int) : Int := (if b < 0 then -t else t) / (Nat.gcd t.natAbs b.natAbs : Int)
def lowD (t b : Int) : Int := (if b < 0 then -b else b) / (Nat.gcd t.natAbs b.natAbs : Int)
theorem llow_ND (t b : Int) : llowV t b = .tup [.int (lowN t b), .int (lowD t b)] := by
  unfold llowV lowN lowD
  split <;> rfl
theorem lowD_pos {t b : Int} (hb : b ≠ 0) : 0 < lowD t b ∧ lowD t b ≤ b.natAbs := by
  have hg := Nat.gcd_pos_of_pos_right t.natAbs (show 0 < b.natAbs by omega)
  have hd := Nat.gcd_dvd_right t.natAbs b.natAbs
  have e : (if b < 0 then -b else b) = (b.natAbs : Int) := by split <;> omega
  unfold lowD
  rw [e]
  obtain ⟨k, hk⟩ := hd
  generalize Nat.gcd t.natAbs b.natAbs = G at *
  rw [hk, Int.natCast_mul, Int.mul_ediv_cancel_left _ (by omega)]
  have : 0 < k := by
    rcases Nat.eq_zero_or_pos k with z | z
    · subst z; simp at hk; omega
    · exact z
  refine ⟨by omega, ?_⟩
  rw [← Int.natCast_mul]
  have := Nat.le_mul_of_pos_left k hg
  omega
theorem lowN_eq {t b : Int} (hb : b ≠ 0) : lowN t b * b = t * lowD t b := by
  have hg := Nat.gcd_pos_of_pos_right t.natAbs (show 0 < b.natAbs by omega)
  have hd1 : ((Nat.gcd t.natAbs b.natAbs : Nat) : Int) ∣ t := Int.ofNat_dvd_left.mpr (Nat.gcd_dvd_left _ _)
  have hd2 : ((Nat.gcd t.natAbs b.natAbs : Nat) : Int) ∣ b := Int.ofNat_dvd_left.mpr (Nat.gcd_dvd_right _ _)
  unfold lowN lowD
  generalize (Nat.gcd t.natAbs b.natAbs : Nat) = G at *
  obtain ⟨p, hp⟩ := hd1
  obtain ⟨q, hq⟩ := hd2
  have hG : (G : Int) ≠ 0 := by omega
  by_cases h : b < 0
  · rw [if_pos h, if_pos h]
    rw [hp, hq, ← Int.mul_neg, ← Int.mul_neg, Int.mul_ediv_cancel_left _ hG, Int.mul_ediv_cancel_left _ hG]
    grind
  · rw [if_neg h, if_neg h]
    rw [hp, hq, Int.mul_ediv_cancel_left _ hG, Int.mul_ediv_cancel_left _ hG]
    grind
theorem lowN_bd {t b : Int} (hb : b ≠ 0) : (lowN t b).natAbs ≤ t.natAbs := by
  have hg := Nat.gcd_pos_of_pos_right t.natAbs (show 0 < b.natAbs by omega)
  have hd1 : ((Nat.gcd t.natAbs b.natAbs : Nat) : Int) ∣ t := Int.ofNat_dvd_left.mpr (Nat.gcd_dvd_left _ _)
  unfold lowN
  generalize (Nat.gcd t.natAbs b.natAbs : Nat) = G at *
  obtain ⟨p, hp⟩ := hd1
  have hG : (G : Int) ≠ 0 := by omega
  have e : ((if b < 0 then -t else t) / (G : Int)).natAbs = p.natAbs := by
    split
    · rw [hp, ← Int.mul_neg, Int.mul_ediv_cancel_left _ hG, Int.natAbs_neg]
    · rw [hp, Int.mul_ediv_cancel_left _ hG]
  rw [e, hp, Int.natAbs_mul]
  exact Nat.le_mul_of_pos_left _ (by omega)
/-- the crossing of the lines (a, w) and (b, s) -/
def meetQ (a w b s : Dr) : Option Q2 := if crs w s = 0 then none else
  some ⟨lowN (a.1 * crs w s + crs (sub b a) s * w.1) (crs w s), lowD (a.1 * crs w s + crs (sub b a) s * w.1) (crs w s), lowN (a.2 * crs w s + crs (sub b a) s * w.2) (crs w s), lowD (a.2 * crs w s + crs (sub b a) s * w.2) (crs w s)⟩
def optQ : Option Q2 → PV
  | none => .non
  | some q => encQ q
/-- a sight: a place near, a direction -/
structure Sg (a w : Dr) : Prop where
  a1 : -20 ≤ a.1 ∧ a.1 ≤ 20
  a2 : -20 ≤ a.2 ∧ a.2 ≤ 20
  w1 : -50 ≤ w.1 ∧ w.1 ≤ 50
  w2 : -50 ≤ w.2 ∧ w.2 ≤ 50
  n : w ≠ (0, 0)
theorem mul_abs {x y : Int} {a b : Nat} (hx : x.natAbs ≤ a) (hy : y.natAbs ≤ b) : (x * y).natAbs ≤ a * b := by
  rw [Int.natAbs_mul]
  exact Nat.mul_le_mul hx hy
theorem Sg.crs {a w b s : Dr} (h : Sg a w) (h' : Sg b s) : (WY.crs w s).natAbs ≤ 5000 := by
  have h1 := mul_abs (a := 50) (b := 50) (show w.1.natAbs ≤ 50 by have := h.w1; omega) (show s.2.natAbs ≤ 50 by have := h'.w2; omega)
  have h2 := mul_abs (a := 50) (b := 50) (show w.2.natAbs ≤ 50 by have := h.w2; omega) (show s.1.natAbs ≤ 50 by have := h'.w1; omega)
  unfold WY.crs
  omega
theorem Sg.gap {a w b s : Dr} (h : Sg a w) (h' : Sg b s) : (WY.crs (sub b a) s).natAbs ≤ 4000 := by
  have h1 := mul_abs (a := 40) (b := 50) (show (b.1 - a.1).natAbs ≤ 40 by have := h.a1; have := h'.a1; omega) (show s.2.natAbs ≤ 50 by have := h'.w2; omega)
  have h2 := mul_abs (a := 40) (b := 50) (show (b.2 - a.2).natAbs ≤ 40 by have := h.a2; have := h'.a2; omega) (show s.1.natAbs ≤ 50 by have := h'.w1; omega)
  unfold WY.crs sub
  simp only
  omega
theorem Sg.top1 {a w b s : Dr} (h : Sg a w) (h' : Sg b s) : (a.1 * WY.crs w s + WY.crs (sub b a) s * w.1).natAbs ≤ 300000 := by
  have h1 := mul_abs (a := 20) (b := 5000) (show a.1.natAbs ≤ 20 by have := h.a1; omega) (h.crs h')
  have h2 := mul_abs (a := 4000) (b := 50) (h.gap h') (show w.1.natAbs ≤ 50 by have := h.w1; omega)
  omega
theorem Sg.top2 {a w b s : Dr} (h : Sg a w) (h' : Sg b s) : (a.2 * WY.crs w s + WY.crs (sub b a) s * w.2).natAbs ≤ 300000 := by
  have h1 := mul_abs (a := 20) (b := 5000) (show a.2.natAbs ≤ 20 by have := h.a2; omega) (h.crs h')
  have h2 := mul_abs (a := 4000) (b := 50) (h.gap h') (show w.2.natAbs ≤ 50 by have := h.w2; omega)
  omega
theorem meet_ok {a w b s : Dr} (h : Sg a w) (h' : Sg b s) {q : Q2} (hq : meetQ a w b s = some q) : q.Ok := by
  unfold meetQ at hq
  split at hq
  · cases hq
  · rename_i hz
    cases hq
    have c := h.crs h'
    have t1 := h.top1 h'
    have t2 := h.top2 h'
    have d1 := lowD_pos (t := a.1 * WY.crs w s + WY.crs (sub b a) s * w.1) hz
    have d2 := lowD_pos (t := a.2 * WY.crs w s + WY.crs (sub b a) s * w.2) hz
    have n1 := lowN_bd (t := a.1 * WY.crs w s + WY.crs (sub b a) s * w.1) hz
    have n2 := lowN_bd (t := a.2 * WY.crs w s + WY.crs (sub b a) s * w.2) hz
    refine ⟨d1.1, d2.1, ?_, ?_, ?_, ?_, ?_, ?_⟩ <;> simp only <;> omega
/-- twice, scaled: on which side of a line -/
def sdQ (a w : Dr) (q : Q2) : Int := w.1 * (q.y - a.2 * q.v) * q.u - w.2 * (q.x - a.1 * q.u) * q.v
/-- the crossing lies on both lines -/
theorem meet_on {a w b s : Dr} {q : Q2} (hq : meetQ a w b s = some q) : sdQ a w q = 0 ∧ sdQ b s q = 0 := by
  unfold meetQ at hq
  split at hq
  · cases hq
  · rename_i hz
    cases hq
    have e1 := lowN_eq (t := a.1 * WY.crs w s + WY.crs (sub b a) s * w.1) hz
    have e2 := lowN_eq (t := a.2 * WY.crs w s + WY.crs (sub b a) s * w.2) hz
    unfold sdQ
    simp only
    generalize lowN (a.1 * WY.crs w s + WY.crs (sub b a) s * w.1) (WY.crs w s) = X at *
    generalize lowD (a.1 * WY.crs w s + WY.crs (sub b a) s * w.1) (WY.crs w s) = U at *
    generalize lowN (a.2 * WY.crs w s + WY.crs (sub b a) s * w.2) (WY.crs w s) = Y at *
    generalize lowD (a.2 * WY.crs w s + WY.crs (sub b a) s * w.2) (WY.crs w s) = V at *
    have key : ∀ z : Int, z * WY.crs w s = 0 → z = 0 := fun z h => by
      rcases Int.mul_eq_zero.mp h with h | h
      · exact h
      · exact absurd h hz
    constructor
    · apply key
      have : (w.1 * (Y - a.2 * V) * U - w.2 * (X - a.1 * U) * V) * WY.crs w s = w.1 * (Y * WY.crs w s - a.2 * V * WY.crs w s) * U - w.2 * (X * WY.crs w s - a.1 * U * WY.crs w s) * V := by grind
      rw [this, e1, e2]
      grind
    · apply key
      have : (s.1 * (Y - b.2 * V) * U - s.2 * (X - b.1 * U) * V) * WY.crs w s = s.1 * (Y * WY.crs w s - b.2 * V * WY.crs w s) * U - s.2 * (X * WY.crs w s - b.1 * U * WY.crs w s) * V := by grind
      rw [this, e1, e2]
      unfold WY.crs sub
      simp only
      grind
/-! ### triangles -/
def ori (a b c : Dr) : Int := crs (sub b a) (sub c a)
theorem ori_sum (a b c p : Dr) : ori a b p + ori b c p + ori c a p = ori a b c := by unfold ori crs sub; simp only; grind
theorem ori_rot (a b c : Dr) : ori b c a = ori a b c := by unfold ori crs sub; simp only; grind
/-- two points on a line: the sides of two others -/
theorem ori_side {a b p c P w : Dr} (nw : w ≠ (0, 0)) (ha : crs w (sub a P) = 0) (hb : crs w (sub b P) = 0) (hA : ori a b c ≠ 0) : 0 ≤ ori a b p * ori a b c ↔ 0 ≤ crs w (sub p P) * crs w (sub c P) := by
  have hW := nz_sq nw
  have hab : crs w (sub b a) = 0 := by
    have : crs w (sub b a) = crs w (sub b P) - crs w (sub a P) := by unfold crs sub; simp only; grind
    rw [this, ha, hb]; rfl
  have k : ∀ z : Dr, ori a b z * (w.1 * w.1 + w.2 * w.2) = dt (sub b a) w * crs w (sub z P) := by
    intro z
    have e : crs w (sub z P) = crs w (sub z a) + crs w (sub a P) := by unfold crs sub; simp only; grind
    rw [e, ha, Int.add_zero]
    have : ori a b z * (w.1 * w.1 + w.2 * w.2) - dt (sub b a) w * crs w (sub z a) = -crs w (sub b a) * dt w (sub z a) := by unfold ori crs dt sub; simp only; grind
    rw [hab] at this
    simp at this
    omega
  have k1 := k p
  have k2 := k c
  generalize w.1 * w.1 + w.2 * w.2 = W at *
  generalize dt (sub b a) w = M at *
  generalize crs w (sub p P) = s at *
  generalize crs w (sub c P) = t at *
  generalize ori a b p = o at *
  generalize ori a b c = A at *
  have e : (o * A) * (W * W) = (M * M) * (s * t) := by
    have : (o * A) * (W * W) = (o * W) * (A * W) := by grind
    rw [this, k1, k2]
    grind
  have hM : M ≠ 0 := fun z => by
    rw [z, Int.zero_mul] at k2
    rcases Int.mul_eq_zero.mp k2 with h | h
    · exact hA h
    · omega
  have hM2 : 0 < M * M := by
    rcases Int.lt_trichotomy M 0 with h | h | h
    · exact Int.mul_pos_of_neg_of_neg h h
    · exact absurd h hM
    · exact Int.mul_pos h h
  have hW2 : 0 < W * W := Int.mul_pos hW hW
  constructor
  · intro h
    have := Int.mul_nonneg h (Int.le_of_lt hW2)
    rw [e] at this
    rcases Int.lt_trichotomy (s * t) 0 with z | z | z
    · have := Int.mul_neg_of_pos_of_neg hM2 z; omega
    · omega
    · omega
  · intro h
    have := Int.mul_nonneg (Int.le_of_lt hM2) h
    rw [← e] at this
    rcases Int.lt_trichotomy (o * A) 0 with z | z | z
    · have := Int.mul_neg_of_neg_of_pos z hW2; omega
    · omega
    · omega
theorem all_signs {o1 o2 o3 A : Int} (hs : o1 + o2 + o3 = A) (hA : A ≠ 0) : ((0 ≤ o1 ∧ 0 ≤ o2 ∧ 0 ≤ o3) ∨ (o1 ≤ 0 ∧ o2 ≤ 0 ∧ o3 ≤ 0)) ↔ (0 ≤ o1 * A ∧ 0 ≤ o2 * A ∧ 0 ≤ o3 * A) := by
  have key : ∀ o : Int, 0 < A → (0 ≤ o * A ↔ 0 ≤ o) := fun o h => by
    constructor
    · intro z
      rcases Int.lt_trichotomy o 0 with q | q | q
      · have := Int.mul_neg_of_neg_of_pos q h; omega
      · omega
      · omega
    · intro z; exact Int.mul_nonneg z (Int.le_of_lt h)
  have key2 : ∀ o : Int, A < 0 → (0 ≤ o * A ↔ o ≤ 0) := fun o h => by
    constructor
    · intro z
      rcases Int.lt_trichotomy o 0 with q | q | q
      · omega
      · omega
      · have := Int.mul_neg_of_pos_of_neg q h; omega
    · intro z; exact Int.mul_nonneg_of_nonpos_of_nonpos z (Int.le_of_lt h)
  rcases Int.lt_trichotomy A 0 with h | h | h
  · rw [key2 o1 h, key2 o2 h, key2 o3 h]; omega
  · exact absurd h hA
  · rw [key o1 h, key o2 h, key o3 h]; omega
end WY
namespace WY
open PySem PySem.Spec PyProof.Rows L2 VL PF PH
variable {F : Nat → List PV → R PV}
/-! ### fixes -/
theorem low_sign {t b : Int} (hb : b ≠ 0) : lowT ((if 0 < b then 1 else -1) * t) b.natAbs = llowV t b := by
  by_cases h : 0 < b
  · rw [if_pos h, Int.one_mul, ← low_nn]
    congr 1
    omega
  · rw [if_neg h, low_neg (by omega), ← low_nn]
    congr 1
    · omega
    · omega
def S_crossing (g : List PV → R PV) : Prop := ∀ a w b s : Dr, Sg a w → Sg b s → g [encD a, encD w, encD b, encD s] = .ok (optQ (meetQ a w b s))
theorem Sg.smw {a w : Dr} (h : Sg a w) : Sx w := ⟨by have := h.w1; omega, by have := h.w2; omega⟩
theorem Sg.sma {a w : Dr} (h : Sg a w) : Nr a := ⟨by have := h.a1; omega, by have := h.a2; omega⟩
theorem small_l {x y : Int} (h : x.natAbs ≤ 1000000000000000) : mulOk x y = true := mulOk_l ⟨by omega, by omega⟩
theorem small_r {x y : Int} (h : y.natAbs ≤ 1000000000000000) : mulOk x y = true := mulOk_r ⟨by omega, by omega⟩
theorem sp_crossing (h1 : S_cross (F 285)) (h2 : S_way_between (F 646)) (h3 : S_lowest (F 453)) : S_crossing fun us => outR (b_crossing_of F (startE 9 us)) := by
  intro a w b s h h'
  have c1 := h.crs h'
  have c2 := h.gap h'
  have t1 := h.top1 h'
  have t2 := h.top2 h'
  have e1 := h1 w s h'.smw.sm
  have e2 := h1 (sub b a) s h'.smw.sm
  unfold meetQ
  by_cases hz : crs w s = 0
  · rw [if_pos hz]
    rw [hz] at e1
    simp -implicitDefEqProofs [b_crossing_of, e1, optQ]
  · rw [if_neg hz]
    have k1 := h3 ((if 0 < crs w s then 1 else -1) * (a.1 * crs w s + crs (sub b a) s * w.1)) (crs w s).natAbs (by omega) (by omega)
    have k2 := h3 ((if 0 < crs w s then 1 else -1) * (a.2 * crs w s + crs (sub b a) s * w.2)) (crs w s).natAbs (by omega) (by omega)
    rw [low_sign hz, llow_ND] at k1 k2
    have qa : ∀ x, mulOk a.1 x = true := fun x => small_l (by have := h.a1; omega)
    have qb : ∀ x, mulOk a.2 x = true := fun x => small_l (by have := h.a2; omega)
    have qw : ∀ x, mulOk w.1 x = true := fun x => small_l (by have := h.w1; omega)
    have qv : ∀ x, mulOk w.2 x = true := fun x => small_l (by have := h.w2; omega)
    have qs : ∀ x, mulOk (if 0 < crs w s then 1 else -1) x = true := fun x => small_l (by split <;> omega)
    have enc : ∀ q : Q2, optQ (some q) = .tup [.tup [.int q.x, .int q.u], .tup [.int q.y, .int q.v]] := fun _ => rfl
    rw [enc]
    simp only
    rw [Int.mul_comm (crs (sub b a) s) w.1] at k1 ⊢
    rw [Int.mul_comm (crs (sub b a) s) w.2] at k2 ⊢
    generalize lowN (a.1 * crs w s + w.1 * crs (sub b a) s) (crs w s) = X at *
    generalize lowD (a.1 * crs w s + w.1 * crs (sub b a) s) (crs w s) = U at *
    generalize lowN (a.2 * crs w s + w.2 * crs (sub b a) s) (crs w s) = Y at *
    generalize lowD (a.2 * crs w s + w.2 * crs (sub b a) s) (crs w s) = V at *
    have hsg : (if 0 < crs w s then R.ok (PV.int 1) else R.ok (PV.int (-1))) = R.ok (PV.int (if 0 < crs w s then 1 else -1)) := by split <;> rfl
    have comp : lcL (tN 8) cYes (b_crossing_of_0 F) [some (encD a), some (encD w), some (encD b), some (encD s), some (.int (crs w s)), some (.int (crs (sub b a) s)), some (.int (if 0 < crs w s then 1 else -1)), none, none] [.int 0, .int 1] = .ok [.tup [.int X, .int U], .tup [.int Y, .int V]] := by
      have a0 : absP [.int (crs w s)] = some (.int ((crs w s).natAbs : Int)) := by rw [absP_ab, ab_nat]
      generalize (if 0 < crs w s then (1 : Int) else -1) = sg at *
      have p1 : b_crossing_of_0 F [some (encD a), some (encD w), some (encD b), some (encD s), some (.int (crs w s)), some (.int (crs (sub b a) s)), some (.int sg), none, some (.int 0)] = .ok (.tup [.int X, .int U]) := by
        simp -implicitDefEqProofs [b_crossing_of_0, encD_0, qa, qw, qs, a0, -absP_i, k1]
      have p2 : b_crossing_of_0 F [some (encD a), some (encD w), some (encD b), some (encD s), some (.int (crs w s)), some (.int (crs (sub b a) s)), some (.int sg), none, some (.int 1)] = .ok (.tup [.int Y, .int V]) := by
        simp -implicitDefEqProofs [b_crossing_of_0, encD_1, qb, qv, qs, a0, -absP_i, k2]
      have := lcL_map (t := tN 8) (e := b_crossing_of_0 F) (ρ := [some (encD a), some (encD w), some (encD b), some (encD s), some (.int (crs w s)), some (.int (crs (sub b a) s)), some (.int sg), none, none]) PV.int (fun i => if i = 0 then PV.tup [.int X, .int U] else PV.tup [.int Y, .int V]) [0, 1] fun i hi => ⟨_, rfl, by
        simp only [List.mem_cons, List.not_mem_nil, or_false] at hi
        rcases hi with rfl | rfl
        · exact p1
        · exact p2⟩
      exact this
    simp -implicitDefEqProofs [b_crossing_of, e1, e2, hz, wb h2, szl, hsg, comp]
/-- seen ahead -/
def seenB (q : Q2) (l w : Dr) : Bool := decide (0 < w.1 * (l.1 * (q.u * q.v) - q.x * q.v) + w.2 * (l.2 * (q.u * q.v) - q.y * q.u))
def S_seen_so (g : List PV → R PV) : Prop := ∀ (q : Q2) (l w : Dr), q.Ok → Sg l w → g [encQ q, encD l, encD w] = .ok (.bl (seenB q l w))
theorem big_lt {x : Int} (h : x.natAbs ≤ 1000000000000000) : x < bigI := bigI_of (by omega)
theorem sp_seen_so (F : Nat → List PV → R PV) : S_seen_so fun us => outR (b_is_seen_so F (startE 6 us)) := by
  intro q l w hq h
  obtain ⟨u0, v0, u1, v1, x0, x1, y0, y1⟩ := hq
  have m0 : mulOk q.u q.v = true := small_l (by omega)
  have ml1 : ∀ x, mulOk l.1 x = true := fun x => small_l (by have := h.a1; omega)
  have ml2 : ∀ x, mulOk l.2 x = true := fun x => small_l (by have := h.a2; omega)
  have mw1 : ∀ x, mulOk w.1 x = true := fun x => small_l (by have := h.w1; omega)
  have mw2 : ∀ x, mulOk w.2 x = true := fun x => small_l (by have := h.w2; omega)
  have mx : ∀ x, mulOk q.x x = true := fun x => small_l (by omega)
  have my : ∀ x, mulOk q.y x = true := fun x => small_l (by omega)
  have dv1 : q.u * q.v / q.u = q.v := Int.mul_ediv_cancel_left _ (by omega)
  have dv2 : q.u * q.v / q.v = q.u := Int.mul_ediv_cancel _ (by omega)
  have bu : q.u < bigI := big_lt (by omega)
  have bv : q.v < bigI := big_lt (by omega)
  unfold seenB
  simp -implicitDefEqProofs [b_is_seen_so, encQ_0, encQ_1, encD_0, encD_1, m0, szl, forL_S, b_is_seen_so_0, ml1, ml2, mw1, mw2, mx, my, dv1, dv2, bu, bv, u0, v0]
def fixV (a w b s : Dr) : PV := match meetQ a w b s with
  | none => .non
  | some q => if seenB q a w && seenB q b s then encQ q else .non
structure FixBy (g : List PV → R PV) : Prop where
  ok : ∀ a w b s : Dr, Sg a w → Sg b s → g [encD a, encD w, encD b, encD s] = .ok (fixV a w b s)
  b0 : ∀ a b s : Dr, g [encD a, encD (0, 0), encD b, encD s] = .exc 8 (bw 0)
  b1 : ∀ a w b : Dr, w ≠ (0, 0) → g [encD a, encD w, encD b, encD (0, 0)] = .exc 8 (bw 1)
  far : ∀ w b s : Dr, w ≠ (0, 0) → s ≠ (0, 0) → g [encD (100001, 0), encD w, encD b, encD s] = .exc 17 (oor 100001)
theorem Sg.pl {a w : Dr} (h : Sg a w) : plB a = true := by
  have := h.a1
  have := h.a2
  unfold plB inPl
  simp only [Bool.and_eq_true, decide_eq_true_eq]
  omega
theorem sp_fix (h1 : S_ways (F 261)) (h2 : S_place_ck (F 242)) (h3 : S_crossing (F 287)) (h4 : S_seen_so (F 379)) : FixBy fun us => outR (b_fix_by F (startE 5 us)) := by
  refine ⟨fun a w b s h h' => ?_, fun a b s => ?_, fun a w b nw => ?_, fun w b s nw ns => ?_⟩
  · have e3 := h3 a w b s h h'
    unfold fixV
    cases hq : meetQ a w b s with
    | none =>
      rw [hq] at e3
      simp -implicitDefEqProofs [b_fix_by, w2 h1 h.n h'.n, pl_ok h2 h.pl, pl_ok h2 h'.pl, e3, szl, optQ]
    | some q =>
      rw [hq] at e3
      have k := meet_ok h h' hq
      have i1 : isP (encQ q) .non = some (.bl false) := rfl
      cases c1 : seenB q a w
      · simp -implicitDefEqProofs [b_fix_by, w2 h1 h.n h'.n, pl_ok h2 h.pl, pl_ok h2 h'.pl, e3, szl, optQ, i1, h4 q a w k h, c1]
      · cases c2 : seenB q b s <;> simp -implicitDefEqProofs [b_fix_by, w2 h1 h.n h'.n, pl_ok h2 h.pl, pl_ok h2 h'.pl, e3, szl, optQ, i1, h4 q a w k h, h4 q b s k h', c1, c2]
  · simp -implicitDefEqProofs [b_fix_by, w2a h1, szl]
  · have := w2b h1 (f := 0) nw
    simp -implicitDefEqProofs [b_fix_by, this, szl]
  · have e1 : F 242 [encD (100001, 0)] = .exc 17 (oor 100001) := pl_bad h2 (d := (100001, 0)) (by decide)
    simp -implicitDefEqProofs [b_fix_by, w2 h1 nw ns, e1, szl]
/-! sights -/
abbrev Si := Dr × Dr
def encS (s : Si) : PV := .tup [encD s.1, encD s.2]
def une (k : Int) : List (Str × PV) := [("value", .int k), ("label", .str "Unequal")]
theorem mk_une (k : Int) : mkFs 1 sp_Unequal [.int k] = some (une k) := by
  unfold mkFs
  rw [if_pos ⟨rfl, by decide⟩]
  rfl
theorem encS_0 (s : Si) : ixP (encS s) (.int 0) = some (encD s.1) := rfl
theorem encS_1 (s : Si) : ixP (encS s) (.int 1) = some (encD s.2) := rfl
theorem tT_S (i j : Nat) (s : Si) : tT [tN i, tN j] (encS s) = some [(i, encD s.1), (j, encD s.2)] := rfl
structure CheckSights (g : List PV → R PV) : Prop where
  ok : ∀ s0 s1 s2 : Si, Sg s0.1 s0.2 → Sg s1.1 s1.2 → Sg s2.1 s2.2 → g [.lst [encS s0, encS s1, encS s2]] = .ok .non
  two : ∀ s0 s1 : Si, Sg s0.1 s0.2 → Sg s1.1 s1.2 → g [.lst [encS s0, encS s1]] = .exc 25 (une 2)
  bad : ∀ (s0 : Si) (a : Dr) (s2 : Si), Sg s0.1 s0.2 → g [.lst [encS s0, encS (a, (0, 0)), encS s2]] = .exc 8 (bw 1)
theorem sp_check_sights (h1 : S_ways (F 261)) (h2 : S_place_ck (F 242)) : CheckSights fun us => outR (b_check_sights F (startE 4 us)) := by
  have r3 : rg1 3 = .ok [.int 0, .int 1, .int 2] := rg1_nat (n := 3) (by decide)
  have r2 : rg1 2 = .ok [.int 0, .int 1] := rg1_nat (n := 2) (by decide)
  refine ⟨fun s0 s1 s2 g0 g1 g2 => ?_, fun s0 s1 g0 g1 => ?_, fun s0 a s2 g0 => ?_⟩
  · simp -implicitDefEqProofs [b_check_sights, r3, forL_S, b_check_sights_0, encS_0, encS_1, w1 h1 g0.n, w1 h1 g1.n, w1 h1 g2.n, szl, tT_S, b_check_sights_1, pl_ok h2 g0.pl, pl_ok h2 g1.pl, pl_ok h2 g2.pl, c_SIGHTS]
  · simp -implicitDefEqProofs [b_check_sights, r2, forL_S, b_check_sights_0, encS_0, encS_1, w1 h1 g0.n, w1 h1 g1.n, szl, tT_S, b_check_sights_1, pl_ok h2 g0.pl, pl_ok h2 g1.pl, c_SIGHTS, mk_une]
  · simp -implicitDefEqProofs [b_check_sights, r3, forL_S, b_check_sights_0, encS_0, encS_1, w1 h1 g0.n, w1b h1, szl]
/-- the three crossings -/
def cors (s0 s1 s2 : Si) : Option (Q2 × Q2 × Q2) := match meetQ s0.1 s0.2 s1.1 s1.2, meetQ s0.1 s0.2 s2.1 s2.2, meetQ s1.1 s1.2 s2.1 s2.2 with
  | some a, some b, some c => some (a, b, c)
  | _, _, _ => none
def enc3 (q : Q2 × Q2 × Q2) : PV := .lst [encQ q.1, encQ q.2.1, encQ q.2.2]
def optC : Option (Q2 × Q2 × Q2) → PV
  | none => .non
  | some q => enc3 q
def S_corners (g : List PV → R PV) : Prop := ∀ s0 s1 s2 : Si, Sg s0.1 s0.2 → Sg s1.1 s1.2 → Sg s2.1 s2.2 → g [.lst [encS s0, encS s1, encS s2]] = .ok (optC (cors s0 s1 s2))
def isNone : PV → Bool
  | .non => true
  | _ => false
theorem tm_optQ (n : Nat) (q : Option Q2) : PV.tm (n + 2) (optQ q) = true := by
  cases q with
  | none => exact tm_n _
  | some q =>
    unfold optQ encQ
    rw [tm_t, tms_S, tms_S, tms_0, tm_t, tm_t, tms_S, tms_S, tms_S, tms_S, tms_0, tm_i, tm_i, tm_i, tm_i]
    rfl
theorem inB_optQ (a b c : Option Q2) : inB .non (.lst [optQ a, optQ b, optQ c]) = some (a.isNone || (b.isNone || c.isNone)) := by
  by_cases h : (a.isNone && (b.isNone && c.isNone)) = true
  · simp only [Bool.and_eq_true, Option.isNone_iff_eq_none] at h
    obtain ⟨rfl, rfl, rfl⟩ := h
    rfl
  · have : ([optQ a, optQ b, optQ c] : List PV).all flatP = false := by
      cases a <;> cases b <;> cases c <;> simp_all [optQ, encQ, flatP]
    show (if flatP .non = true ∧ ([optQ a, optQ b, optQ c] : List PV).all flatP = true then _ else dataIn .non _) = _
    rw [if_neg (by rw [this]; simp), dataIn_tm (tm_n _) (by rw [tms_S, tms_S, tms_S, tms_0, tm_optQ 61, tm_optQ 61, tm_optQ 61]; rfl)]
    cases a <;> cases b <;> cases c <;> simp [optQ, encQ]
theorem sp_corners (h1 : S_crossing (F 287)) : S_corners fun us => outR (b_corners_of F (startE 4 us)) := by
  intro s0 s1 s2 g0 g1 g2
  have e1 := h1 s0.1 s0.2 s1.1 s1.2 g0 g1
  have e2 := h1 s0.1 s0.2 s2.1 s2.2 g0 g2
  have e3 := h1 s1.1 s1.2 s2.1 s2.2 g1 g2
  have nq : ∀ q, PV.nol (optQ q) = true := fun q => by cases q <;> simp [optQ, encQ]
  unfold cors
  generalize meetQ s0.1 s0.2 s1.1 s1.2 = a at *
  generalize meetQ s0.1 s0.2 s2.1 s2.2 = b at *
  generalize meetQ s1.1 s1.2 s2.1 s2.2 = c at *
  have i := inB_optQ a b c
  cases a <;> cases b <;> cases c <;> simp -implicitDefEqProofs [b_corners_of, forL_S, b_corners_of_0, encS_0, encS_1, e1, e2, e3, szl, nq, i, optC, enc3]
  all_goals exact ⟨rfl, rfl, rfl⟩
end WY
namespace WY
open PySem PySem.Spec PyProof.Rows L2 VL PF PH
variable {F : Nat → List PV → R PV}
/-! ### areas -/
def Bg (d : Dr) : Prop := (-bigI < d.1 ∧ d.1 < bigI) ∧ (-bigI < d.2 ∧ d.2 < bigI)
def S_crossB (g : List PV → R PV) : Prop := ∀ a b : Dr, Bg a → Bg b → g [encD a, encD b] = .ok (.int (crs a b))
theorem sp_crossB (F : Nat → List PV → R PV) : S_crossB fun us => outR (b_cross F (startE 2 us)) := by
  intro a b ha hb
  simp -implicitDefEqProofs [b_cross, encD_0, encD_1, mulOk_b ha.1 hb.2, mulOk_b ha.2 hb.1, crs]
def szQ (a b c : Q2) : Int := a.u * a.v * (b.u * b.v) * (c.u * c.v)
/-- the point, scaled -/
def tq (S : Int) (q : Q2) : Dr := (q.x * (S / q.u), q.y * (S / q.v))
def crQ (a b c : Q2) : Int := ori (tq (szQ a b c) a) (tq (szQ a b c) b) (tq (szQ a b c) c)
def twV (a b c : Q2) : PV := lowT (crQ a b c) (szQ a b c * szQ a b c).toNat
theorem szQ_pos {a b c : Q2} (ha : a.Ok) (hb : b.Ok) (hc : c.Ok) : 0 < szQ a b c ∧ szQ a b c ≤ 1000000000000000000000000 := by
  have p1 := Int.mul_pos ha.u0 ha.v0
  have p2 := Int.mul_pos hb.u0 hb.v0
  have p3 := Int.mul_pos hc.u0 hc.v0
  have q : ∀ z : Q2, z.Ok → z.u * z.v ≤ 100000000 := fun z hz => by
    have := Int.mul_le_mul hz.u1 hz.v1 (Int.le_of_lt hz.v0) (by omega)
    omega
  have q1 := q a ha
  have q2 := q b hb
  have q3 := q c hc
  unfold szQ
  generalize a.u * a.v = A at *
  generalize b.u * b.v = B at *
  generalize c.u * c.v = C at *
  refine ⟨Int.mul_pos (Int.mul_pos p1 p2) p3, ?_⟩
  have r1 : A * B ≤ 100000000 * 100000000 := Int.mul_le_mul q1 q2 (Int.le_of_lt p2) (by omega)
  have r2 : A * B * C ≤ 100000000 * 100000000 * 100000000 := Int.mul_le_mul r1 q3 (Int.le_of_lt p3) (by omega)
  omega
theorem abs_le_mul {x y : Int} {a b : Nat} (hx : x.natAbs ≤ a) (hy : y.natAbs ≤ b) : (x * y).natAbs ≤ a * b := mul_abs hx hy
theorem big40 {x : Int} (h : x.natAbs ≤ 10000000000000000000000000000000000000000) : -bigI < x ∧ x < bigI := by
  have := big50 (n := x.natAbs) (by omega)
  omega
theorem tq_bd {S : Int} {q : Q2} (hq : q.Ok) (h0 : 0 < S) (h1 : S ≤ 1000000000000000000000000) : (tq S q).1.natAbs ≤ 10000000000000000000000000000000 ∧ (tq S q).2.natAbs ≤ 10000000000000000000000000000000 := by
  obtain ⟨u0, v0, u1, v1, x0, x1, y0, y1⟩ := hq
  have e1 : (S / q.u).natAbs ≤ 1000000000000000000000000 := by
    have a1 := Int.ediv_nonneg (Int.le_of_lt h0) (Int.le_of_lt u0)
    have a2 := Int.ediv_le_self q.u (Int.le_of_lt h0)
    omega
  have e2 : (S / q.v).natAbs ≤ 1000000000000000000000000 := by
    have a1 := Int.ediv_nonneg (Int.le_of_lt h0) (Int.le_of_lt v0)
    have a2 := Int.ediv_le_self q.v (Int.le_of_lt h0)
    omega
  have := abs_le_mul (a := 10000000) (show q.x.natAbs ≤ 10000000 by omega) e1
  have := abs_le_mul (a := 10000000) (show q.y.natAbs ≤ 10000000 by omega) e2
  unfold tq
  simp only
  omega
theorem sub_bg {p q : Dr} (hp : p.1.natAbs ≤ 10000000000000000000000000000000 ∧ p.2.natAbs ≤ 10000000000000000000000000000000) (hq : q.1.natAbs ≤ 10000000000000000000000000000000 ∧ q.2.natAbs ≤ 10000000000000000000000000000000) : Bg (sub p q) := by
  unfold sub
  exact ⟨big40 (by simp only; omega), big40 (by simp only; omega)⟩
def S_twice (g : List PV → R PV) : Prop := ∀ a b c : Q2, a.Ok → b.Ok → c.Ok → g [.lst [encQ a, encQ b, encQ c]] = .ok (twV a b c)
theorem tT_Q (i j : Nat) (q : Q2) : tT [tN i, tN j] (encQ q) = some [(i, .tup [.int q.x, .int q.u]), (j, .tup [.int q.y, .int q.v])] := rfl
theorem sp_twice (h1 : S_crossB (F 285)) (h2 : S_way_between (F 646)) (h3 : S_lowest (F 453)) : S_twice fun us => outR (b_twice_area F (startE 6 us)) := by
  intro a b c ha hb hc
  have sz := szQ_pos ha hb hc
  have ta := tq_bd ha sz.1 sz.2
  have tb := tq_bd hb sz.1 sz.2
  have tc := tq_bd hc sz.1 sz.2
  have e1 := h1 (sub (tq (szQ a b c) b) (tq (szQ a b c) a)) (sub (tq (szQ a b c) c) (tq (szQ a b c) a)) (sub_bg tb ta) (sub_bg tc ta)
  have m2 : mulOk (szQ a b c) (szQ a b c) = true := mulOk_b (big40 (by omega)) (big40 (by omega))
  have mS : szQ a b c * szQ a b c ≤ 1000000000000000000000000 * 1000000000000000000000000 := Int.mul_le_mul sz.2 sz.2 (Int.le_of_lt sz.1) (by omega)
  have pS := Int.mul_pos sz.1 sz.1
  have e3 := h3 (crQ a b c) (szQ a b c * szQ a b c).toNat (by omega) (by omega)
  rw [Int.toNat_of_nonneg (by omega)] at e3
  have mm : ∀ z : Q2, z.Ok → mulOk z.u z.v = true := fun z hz => small_l (by have := hz.u0; have := hz.u1; omega)
  have mr : ∀ (z : Q2) (x : Int), z.Ok → mulOk x (z.u * z.v) = true := fun z x hz => small_r (by
    have := abs_le_mul (a := 10000) (b := 10000) (show z.u.natAbs ≤ 10000 by have := hz.u0; have := hz.u1; omega) (show z.v.natAbs ≤ 10000 by have := hz.v0; have := hz.v1; omega)
    omega)
  have mx : ∀ (z : Q2) (x : Int), z.Ok → mulOk z.x x = true := fun z x hz => small_l (by have := hz.x0; have := hz.x1; omega)
  have my : ∀ (z : Q2) (x : Int), z.Ok → mulOk z.y x = true := fun z x hz => small_l (by have := hz.y0; have := hz.y1; omega)
  have bu : ∀ z : Q2, z.Ok → z.u < bigI := fun z hz => big_lt (by have := hz.u0; have := hz.u1; omega)
  have bv : ∀ z : Q2, z.Ok → z.v < bigI := fun z hz => big_lt (by have := hz.v0; have := hz.v1; omega)
  have comp : ∀ x2 : Option PV, lcL (tT [tN 4, tN 5]) cYes (b_twice_area_1 F) [some (.lst [encQ a, encQ b, encQ c]), some (.int (szQ a b c)), x2, none, none, none] [encQ a, encQ b, encQ c] = .ok [encD (tq (szQ a b c) a), encD (tq (szQ a b c) b), encD (tq (szQ a b c) c)] := by
    intro x2
    exact lcL_map (t := tT [tN 4, tN 5]) (e := b_twice_area_1 F) (ρ := [some (.lst [encQ a, encQ b, encQ c]), some (.int (szQ a b c)), x2, none, none, none]) encQ (fun z => encD (tq (szQ a b c) z)) [a, b, c] fun z hz => by
      have oz : z.Ok := by
        simp only [List.mem_cons, List.not_mem_nil, or_false] at hz
        rcases hz with rfl | rfl | rfl <;> assumption
      refine ⟨_, tT_Q 4 5 z, ?_⟩
      simp -implicitDefEqProofs [b_twice_area_1, szl, mx z _ oz, my z _ oz, bu z oz, bv z oz, oz.u0, oz.v0]
      rfl
  have es : a.u * a.v * (b.u * b.v) * (c.u * c.v) = szQ a b c := rfl
  have ecr : crs (sub (tq (szQ a b c) b) (tq (szQ a b c) a)) (sub (tq (szQ a b c) c) (tq (szQ a b c) a)) = crQ a b c := rfl
  rw [ecr] at e1
  unfold twV
  simp -implicitDefEqProofs [b_twice_area, forL_S, b_twice_area_0, encQ_0, encQ_1, mm a ha, mm b hb, mm c hc, mr a _ ha, mr b _ hb, mr c _ hc, es, comp, szl, wb h2, e1, m2, e3, mulIP]
/-! the hat -/
theorem low_abs1 {t : Int} {b : Nat} (hb : 0 < b) : ∃ n d : Int, lowT t b = .tup [.int n, .int d] ∧ lowT (ab t) b = .tup [.int (ab n), .int d] ∧ (n = 0 ↔ t = 0) ∧ (0 < n ↔ 0 < t) ∧ (n < 0 ↔ t < 0) := by
  have hg := Nat.gcd_pos_of_pos_right t.natAbs hb
  have e : (ab t).natAbs = t.natAbs := by unfold ab; split <;> omega
  have hd1 : ((Nat.gcd t.natAbs b : Nat) : Int) ∣ t := Int.ofNat_dvd_left.mpr (Nat.gcd_dvd_left _ _)
  refine ⟨t / (Nat.gcd t.natAbs b : Int), (b : Int) / (Nat.gcd t.natAbs b : Int), rfl, ?_, ?_⟩
  · unfold lowT
    rw [e]
    congr 3
    generalize Nat.gcd t.natAbs b = G at *
    obtain ⟨p, rfl⟩ := hd1
    have hG : (G : Int) ≠ 0 := by omega
    rw [Int.mul_ediv_cancel_left _ hG]
    unfold ab
    have hG2 : (0 : Int) < G := by omega
    by_cases h : p < 0
    · rw [if_pos h, if_pos (Int.mul_neg_of_pos_of_neg hG2 h), ← Int.mul_neg, Int.mul_ediv_cancel_left _ hG]
    · rw [if_neg h, if_neg (by have := Int.mul_nonneg (Int.le_of_lt hG2) (show 0 ≤ p by omega); omega), Int.mul_ediv_cancel_left _ hG]
  · generalize Nat.gcd t.natAbs b = G at *
    obtain ⟨p, rfl⟩ := hd1
    have hG : (G : Int) ≠ 0 := by omega
    have hG2 : (0 : Int) < G := by omega
    rw [Int.mul_ediv_cancel_left _ hG]
    rcases Int.lt_trichotomy p 0 with h | h | h
    · have := Int.mul_neg_of_pos_of_neg hG2 h; omega
    · subst h; simp
    · have := Int.mul_pos hG2 h; omega
def hatV (q : Option (Q2 × Q2 × Q2)) : PV := match q with
  | none => .non
  | some (a, b, c) => .tup [lowT (ab (crQ a b c)) (szQ a b c * szQ a b c).toNat, enc3 (a, b, c)]
structure HatOf (g : List PV → R PV) : Prop where
  ok : ∀ s0 s1 s2 : Si, Sg s0.1 s0.2 → Sg s1.1 s1.2 → Sg s2.1 s2.2 → g [.lst [encS s0, encS s1, encS s2]] = .ok (hatV (cors s0 s1 s2))
  two : ∀ s0 s1 : Si, Sg s0.1 s0.2 → Sg s1.1 s1.2 → g [.lst [encS s0, encS s1]] = .exc 25 (une 2)
  bad : ∀ (s0 : Si) (a : Dr) (s2 : Si), Sg s0.1 s0.2 → g [.lst [encS s0, encS (a, (0, 0)), encS s2]] = .exc 8 (bw 1)
theorem cors_ok {s0 s1 s2 : Si} (g0 : Sg s0.1 s0.2) (g1 : Sg s1.1 s1.2) (g2 : Sg s2.1 s2.2) {a b c : Q2} (h : cors s0 s1 s2 = some (a, b, c)) : (a.Ok ∧ b.Ok ∧ c.Ok) ∧ meetQ s0.1 s0.2 s1.1 s1.2 = some a ∧ meetQ s0.1 s0.2 s2.1 s2.2 = some b ∧ meetQ s1.1 s1.2 s2.1 s2.2 = some c := by
  unfold cors at h
  cases e1 : meetQ s0.1 s0.2 s1.1 s1.2 with
  | none => rw [e1] at h; cases h
  | some x =>
    cases e2 : meetQ s0.1 s0.2 s2.1 s2.2 with
    | none => rw [e1, e2] at h; cases h
    | some y =>
      cases e3 : meetQ s1.1 s1.2 s2.1 s2.2 with
      | none => rw [e1, e2, e3] at h; cases h
      | some z =>
        rw [e1, e2, e3] at h
        cases h
        exact ⟨⟨meet_ok g0 g1 e1, meet_ok g0 g2 e2, meet_ok g1 g2 e3⟩, rfl, rfl, rfl⟩
theorem sp_hat (h1 : CheckSights (F 252)) (h2 : S_corners (F 279)) (h3 : S_twice (F 638)) : HatOf fun us => outR (b_hat_of F (startE 3 us)) := by
  refine ⟨fun s0 s1 s2 g0 g1 g2 => ?_, fun s0 s1 g0 g1 => ?_, fun s0 a s2 g0 => ?_⟩
  · have e1 := h1.ok s0 s1 s2 g0 g1 g2
    have e2 := h2 s0 s1 s2 g0 g1 g2
    cases hc : cors s0 s1 s2 with
    | none =>
      rw [hc] at e2
      simp -implicitDefEqProofs [b_hat_of, e1, e2, optC, hatV]
    | some q =>
      obtain ⟨a, b, c⟩ := q
      rw [hc] at e2
      obtain ⟨⟨oa, ob, oc⟩, _⟩ := cors_ok g0 g1 g2 hc
      have e3 := h3 a b c oa ob oc
      have sz := szQ_pos oa ob oc
      have pS := Int.mul_pos sz.1 sz.1
      obtain ⟨n, d, l1, l2, _⟩ := low_abs1 (t := crQ a b c) (b := (szQ a b c * szQ a b c).toNat) (by omega)
      unfold twV at e3
      unfold hatV
      rw [l1] at e3
      simp only
      rw [l2]
      have i1 : isP (enc3 (a, b, c)) .non = some (.bl false) := rfl
      have en : enc3 (a, b, c) = .lst [encQ a, encQ b, encQ c] := rfl
      rw [← en] at e3
      simp -implicitDefEqProofs [b_hat_of, e1, e2, optC, i1, e3, szl, absP_ab, -absP_i]
  · simp -implicitDefEqProofs [b_hat_of, h1.two s0 s1 g0 g1]
  · simp -implicitDefEqProofs [b_hat_of, h1.bad s0 a s2 g0]
/-! inside -/
def ptQ (s : Dr) : Q2 := ⟨s.1, 1, s.2, 1⟩
/-- on one side of all three lines, by the signs of areas -/
def sgnB (a b c p : Q2) : Bool := decide ((0 ≤ crQ a b p ∧ 0 ≤ crQ b c p ∧ 0 ≤ crQ c a p) ∨ (crQ a b p ≤ 0 ∧ crQ b c p ≤ 0 ∧ crQ c a p ≤ 0))
def S_inside (g : List PV → R PV) : Prop := ∀ (s0 s1 s2 : Si) (s : Dr) (a b c : Q2), Sg s0.1 s0.2 → Sg s1.1 s1.2 → Sg s2.1 s2.2 → cors s0 s1 s2 = some (a, b, c) → plB s = true → Nr s → crQ a b c ≠ 0 → g [.lst [encS s0, encS s1, encS s2], encD s] = .ok (.bl (sgnB a b c (ptQ s)))
theorem ptQ_ok {s : Dr} (h : Nr s) : (ptQ s).Ok := by
  obtain ⟨⟨a, b⟩, c, d⟩ := h
  exact ⟨by simp [ptQ], by simp [ptQ], by simp [ptQ], by simp [ptQ], by simp only [ptQ]; omega, by simp only [ptQ]; omega, by simp only [ptQ]; omega, by simp only [ptQ]; omega⟩
theorem sp_inside (h1 : CheckSights (F 252)) (h0 : S_place_ck (F 242)) (h2 : S_corners (F 279)) (h3 : S_twice (F 638)) : S_inside fun us => outR (b_inside_hat F (startE 6 us)) := by
  intro s0 s1 s2 s a b c g0 g1 g2 hc ps ns nz
  have e1 := h1.ok s0 s1 s2 g0 g1 g2
  have e2 := h2 s0 s1 s2 g0 g1 g2
  rw [hc] at e2
  obtain ⟨⟨oa, ob, oc⟩, _⟩ := cors_ok g0 g1 g2 hc
  have os := ptQ_ok ns
  have tw : ∀ x y z : Q2, x.Ok → y.Ok → z.Ok → ∃ n d : Int, F 638 [.lst [encQ x, encQ y, encQ z]] = .ok (.tup [.int n, .int d]) ∧ (n = 0 ↔ crQ x y z = 0) ∧ (0 < n ↔ 0 < crQ x y z) ∧ (n < 0 ↔ crQ x y z < 0) := by
    intro x y z ox oy oz
    have e3 := h3 x y z ox oy oz
    have sz := szQ_pos ox oy oz
    have pS := Int.mul_pos sz.1 sz.1
    obtain ⟨n, d, l1, l2, l3⟩ := low_abs1 (t := crQ x y z) (b := (szQ x y z * szQ x y z).toNat) (by omega)
    unfold twV at e3
    rw [l1] at e3
    exact ⟨n, d, e3, l3⟩
  obtain ⟨nA, dA, eA, zA, _⟩ := tw a b c oa ob oc
  obtain ⟨n1, d1, f1, z1, p1, q1⟩ := tw a b (ptQ s) oa ob os
  obtain ⟨n2, d2, f2, z2, p2, q2⟩ := tw b c (ptQ s) ob oc os
  obtain ⟨n3, d3, f3, z3, p3, q3⟩ := tw c a (ptQ s) oc oa os
  have zA' : ¬ nA = 0 := fun z => nz (zA.mp z)
  have en : enc3 (a, b, c) = .lst [encQ a, encQ b, encQ c] := rfl
  have i1 : isP (enc3 (a, b, c)) .non = some (.bl false) := rfl
  have ept : PV.tup [.tup [.int s.1, .int 1], .tup [.int s.2, .int 1]] = encQ (ptQ s) := rfl
  have r3 : rg1 3 = .ok [.int 0, .int 1, .int 2] := rg1_nat (n := 3) (by decide)
  have comp : ∀ x0 x1 x4 : Option PV, lcL (tN 5) cYes (b_inside_hat_0 F) [x0, x1, some (enc3 (a, b, c)), some (encQ (ptQ s)), x4, none] [.int 0, .int 1, .int 2] = .ok [.int n1, .int n2, .int n3] := by
    intro x0 x1 x4
    have b0 : b_inside_hat_0 F [x0, x1, some (enc3 (a, b, c)), some (encQ (ptQ s)), x4, some (.int 0)] = .ok (.int n1) := by
      simp -implicitDefEqProofs [b_inside_hat_0, en, c_SIGHTS, szl, f1]
    have b1 : b_inside_hat_0 F [x0, x1, some (enc3 (a, b, c)), some (encQ (ptQ s)), x4, some (.int 1)] = .ok (.int n2) := by
      simp -implicitDefEqProofs [b_inside_hat_0, en, c_SIGHTS, szl, f2]
    have b2 : b_inside_hat_0 F [x0, x1, some (enc3 (a, b, c)), some (encQ (ptQ s)), x4, some (.int 2)] = .ok (.int n3) := by
      simp -implicitDefEqProofs [b_inside_hat_0, en, c_SIGHTS, szl, f3]
    exact lcL_map (t := tN 5) (e := b_inside_hat_0 F) (ρ := [x0, x1, some (enc3 (a, b, c)), some (encQ (ptQ s)), x4, none]) PV.int (fun i => PV.int (if i = 0 then n1 else if i = 1 then n2 else n3)) [0, 1, 2] fun i hi => ⟨_, rfl, by
      simp only [List.mem_cons, List.not_mem_nil, or_false] at hi
      rcases hi with rfl | rfl | rfl
      · exact b0
      · exact b1
      · exact b2⟩
  have mn : minP [.lst [.int n1, .int n2, .int n3]] = some (.int (min n1 (min n2 n3))) := by simp [minP, intsP, minL]
  have mx : maxP [.lst [.int n1, .int n2, .int n3]] = some (.int (max n1 (max n2 n3))) := by simp [maxP, intsP, maxL]
  have hres : sgnB a b c (ptQ s) = (decide (0 ≤ min n1 (min n2 n3)) || decide (max n1 (max n2 n3) ≤ 0)) := by
    unfold sgnB
    rw [Bool.eq_iff_iff]
    simp only [Bool.or_eq_true, decide_eq_true_eq]
    omega
  rw [hres]
  rw [← en] at eA
  have c3 : c_SIGHTS = .int 3 := rfl
  by_cases k : 0 ≤ min n1 (min n2 n3)
  · simp -implicitDefEqProofs [b_inside_hat, e1, e2, optC, pl_ok h0 ps, i1, encD_0, encD_1, ept, szl, c3, r3, comp, eA, zA', mn, mx, -minP_i, k]
  · simp -implicitDefEqProofs [b_inside_hat, e1, e2, optC, pl_ok h0 ps, i1, encD_0, encD_1, ept, szl, c3, r3, comp, eA, zA', mn, mx, -minP_i, k]
def S_sight_error (g : List PV → R PV) : Prop := ∀ p w s : Dr, plB p = true → plB s = true → Nr p → Nr s → Sx w → w ≠ (0, 0) → g [encD p, encD w, encD s] = .ok (offV p w s)
theorem sp_sight_error (h1 : S_ways (F 261)) (h2 : S_place_ck (F 242)) (h3 : S_off_by (F 480)) : S_sight_error fun us => outR (b_sight_error F (startE 3 us)) := by
  intro p w s pp ps np ns sw nw
  simp -implicitDefEqProofs [b_sight_error, w1 h1 nw, pl_ok h2 pp, pl_ok h2 ps, h3 p w s np ns sw nw, szl]
end WY
namespace WY
open PySem PySem.Spec PyProof.Rows L2 VL PF PH
variable {F : Nat → List PV → R PV}
/-! ### the law's own crossings -/
theorem sp_lmeet (h1 : S_cross (F 163)) (h3 : S_llow (F 55)) : S_crossing fun us => outR (b__law_meet F (startE 7 us)) := by
  intro a w b s h h'
  have c1 := h.crs h'
  have c2 := h.gap h'
  have t1 := h.top1 h'
  have t2 := h.top2 h'
  have e1 := h1 w s h'.smw.sm
  have e2 : F 163 [encD (b.1 - a.1, b.2 - a.2), encD s] = .ok (.int (crs (sub b a) s)) := h1 (sub b a) s h'.smw.sm
  unfold meetQ
  by_cases hz : crs w s = 0
  · rw [if_pos hz]
    rw [hz] at e1
    simp -implicitDefEqProofs [b__law_meet, e1, optQ]
  · rw [if_neg hz]
    have k1 := h3 (a.1 * crs w s + crs (sub b a) s * w.1) (crs w s) hz (by omega)
    have k2 := h3 (a.2 * crs w s + crs (sub b a) s * w.2) (crs w s) hz (by omega)
    rw [llow_ND] at k1 k2
    have qa : ∀ x, mulOk a.1 x = true := fun x => small_l (by have := h.a1; omega)
    have qb : ∀ x, mulOk a.2 x = true := fun x => small_l (by have := h.a2; omega)
    have qw : ∀ x, mulOk x w.1 = true := fun x => small_r (by have := h.w1; omega)
    have qv : ∀ x, mulOk x w.2 = true := fun x => small_r (by have := h.w2; omega)
    have enc : ∀ q : Q2, optQ (some q) = .tup [.tup [.int q.x, .int q.u], .tup [.int q.y, .int q.v]] := fun _ => rfl
    rw [enc]
    simp -implicitDefEqProofs [b__law_meet, e1, hz, encD_0, encD_1, szl, eD, e2, qa, qb, qw, qv, k1, k2]
def S_lfix (g : List PV → R PV) : Prop := ∀ a w b s : Dr, Sg a w → Sg b s → g [encD a, encD w, encD b, encD s] = .ok (fixV a w b s)
theorem sp_lfix (h1 : S_crossing (F 63)) : S_lfix fun us => outR (b__law_fix F (startE 9 us)) := by
  intro a w b s h h'
  have e1 := h1 a w b s h h'
  unfold fixV
  cases hq : meetQ a w b s with
  | none =>
    rw [hq] at e1
    simp -implicitDefEqProofs [b__law_fix, e1, optQ]
  | some q =>
    rw [hq] at e1
    have k := meet_ok h h' hq
    have i1 : isP (encQ q) .non = some (.bl false) := rfl
    have turn : ∀ (l v : Dr) (x0 x1 x2 x3 x6 x7 x8 : Sl), Sg l v → ∃ y6 y7 y8, b__law_fix_0 F [x0, x1, x2, x3, .fz (encQ q), .fz (.tup [encD l, encD v]), x6, x7, x8] = if seenB q l v = true then .next [x0, x1, x2, x3, .fz (encQ q), .fz (.tup [encD l, encD v]), y6, y7, y8] else .ret .non := by
      intro l v x0 x1 x2 x3 x6 x7 x8 g
      obtain ⟨u0, v0, u1, v1, x0', x1', y0, y1⟩ := k
      have b1 := abs_le_mul (a := 20) (b := 10000) (show l.1.natAbs ≤ 20 by have := g.a1; omega) (show q.u.natAbs ≤ 10000 by omega)
      have b2 := abs_le_mul (a := 20) (b := 10000) (show l.2.natAbs ≤ 20 by have := g.a2; omega) (show q.v.natAbs ≤ 10000 by omega)
      have ml1 : ∀ x, mulOk l.1 x = true := fun x => small_l (by have := g.a1; omega)
      have ml2 : ∀ x, mulOk l.2 x = true := fun x => small_l (by have := g.a2; omega)
      have mv1 : ∀ x, mulOk x v.1 = true := fun x => small_r (by have := g.w1; omega)
      have mv2 : ∀ x, mulOk x v.2 = true := fun x => small_r (by have := g.w2; omega)
      have mu : ∀ x, mulOk x q.u = true := fun x => small_r (by omega)
      have mv : ∀ x, mulOk x q.v = true := fun x => small_r (by omega)
      have ee : seenB q l v = !decide ((l.1 * q.u - q.x) * q.v * v.1 + (l.2 * q.v - q.y) * q.u * v.2 ≤ 0) := by
        unfold seenB
        have : v.1 * (l.1 * (q.u * q.v) - q.x * q.v) + v.2 * (l.2 * (q.u * q.v) - q.y * q.u) = (l.1 * q.u - q.x) * q.v * v.1 + (l.2 * q.v - q.y) * q.u * v.2 := by grind
        rw [this, Bool.eq_iff_iff]
        simp
      refine ⟨.fz (.tup [.int (l.1 * q.u - q.x), .int q.u]), .fz (.tup [.int (l.2 * q.v - q.y), .int q.v]), .fz (.int ((l.1 * q.u - q.x) * q.v * v.1 + (l.2 * q.v - q.y) * q.u * v.2)), ?_⟩
      rw [ee]
      by_cases z : (l.1 * q.u - q.x) * q.v * v.1 + (l.2 * q.v - q.y) * q.u * v.2 ≤ 0 <;> simp -implicitDefEqProofs [b__law_fix_0, encD_0, encD_1, encQ_0, encQ_1, ml1, ml2, mv1, mv2, mu, mv, szl, z]
    obtain ⟨y6, y7, y8, t1⟩ := turn a w (.fz (encD a)) (.fz (encD w)) (.fz (encD b)) (.fz (encD s)) .no .no .no h
    obtain ⟨z6, z7, z8, t2⟩ := turn b s (.fz (encD a)) (.fz (encD w)) (.fz (encD b)) (.fz (encD s)) y6 y7 y8 h'
    cases c1 : seenB q a w
    · rw [c1] at t1
      simp -implicitDefEqProofs [b__law_fix, e1, optQ, i1, szl, forL_S, t1, c1]
    · rw [c1] at t1
      cases c2 : seenB q b s <;> rw [c2] at t2 <;> simp -implicitDefEqProofs [b__law_fix, e1, optQ, i1, szl, forL_S, t1, t2, c1, c2]
def S_lside (g : List PV → R PV) : Prop := ∀ (s : Si) (q : Q2), Sg s.1 s.2 → q.Ok → g [encS s, encQ q] = .ok (.int (sdQ s.1 s.2 q))
theorem sp_lside_of (F : Nat → List PV → R PV) : S_lside fun us => outR (b__law_side_of F (startE 4 us)) := by
  intro s q h hq
  obtain ⟨u0, v0, u1, v1, x0, x1, y0, y1⟩ := hq
  have ml1 : ∀ x, mulOk s.1.1 x = true := fun x => small_l (by have := h.a1; omega)
  have ml2 : ∀ x, mulOk s.1.2 x = true := fun x => small_l (by have := h.a2; omega)
  have mw1 : ∀ x, mulOk s.2.1 x = true := fun x => small_l (by have := h.w1; omega)
  have mw2 : ∀ x, mulOk s.2.2 x = true := fun x => small_l (by have := h.w2; omega)
  have mu : ∀ x, mulOk x q.u = true := fun x => small_r (by omega)
  have mv : ∀ x, mulOk x q.v = true := fun x => small_r (by omega)
  unfold sdQ
  simp -implicitDefEqProofs [b__law_side_of, encS_0, encS_1, encD_0, encD_1, encQ_0, encQ_1, ml1, ml2, mw1, mw2, mu, mv]
theorem sd_small {s : Si} {q : Q2} (h : Sg s.1 s.2) (hq : q.Ok) : (sdQ s.1 s.2 q).natAbs ≤ 100000000000000 := by
  obtain ⟨u0, v0, u1, v1, x0, x1, y0, y1⟩ := hq
  have b1 := abs_le_mul (a := 20) (b := 10000) (show s.1.1.natAbs ≤ 20 by have := h.a1; omega) (show q.u.natAbs ≤ 10000 by omega)
  have b2 := abs_le_mul (a := 20) (b := 10000) (show s.1.2.natAbs ≤ 20 by have := h.a2; omega) (show q.v.natAbs ≤ 10000 by omega)
  have c1 := abs_le_mul (a := 50) (b := 10200000) (show s.2.1.natAbs ≤ 50 by have := h.w1; omega) (show (q.y - s.1.2 * q.v).natAbs ≤ 10200000 by omega)
  have c2 := abs_le_mul (a := 50) (b := 10200000) (show s.2.2.natAbs ≤ 50 by have := h.w2; omega) (show (q.x - s.1.1 * q.u).natAbs ≤ 10200000 by omega)
  have d1 := abs_le_mul c1 (show q.u.natAbs ≤ 10000 by omega)
  have d2 := abs_le_mul c2 (show q.v.natAbs ≤ 10000 by omega)
  unfold sdQ
  omega
/-! ### the two ways of asking for the inside -/
theorem sd_scale {D : Int} {q : Q2} {P w : Dr} {m n : Int} (hu : q.u ≠ 0) (hv : q.v ≠ 0) (e1 : D = q.u * m) (e2 : D = q.v * n) : sdQ P w q * D = (q.u * q.v) * crs w (sub (tq D q) (D * P.1, D * P.2)) := by
  have f1 : D / q.u = m := by rw [e1]; exact Int.mul_ediv_cancel_left _ hu
  have f2 : D / q.v = n := by rw [e2]; exact Int.mul_ediv_cancel_left _ hv
  unfold sdQ tq crs sub
  rw [f1, f2]
  simp only
  have : (q.u * q.v) * (w.1 * (q.y * n - D * P.2) - w.2 * (q.x * m - D * P.1)) = w.1 * (q.y * q.u * (q.v * n) - D * P.2 * q.u * q.v) - w.2 * (q.x * q.v * (q.u * m) - D * P.1 * q.u * q.v) := by grind
  rw [this, ← e1, ← e2]
  grind
theorem tq_scale {S k : Int} {q : Q2} {m n : Int} (hu : q.u ≠ 0) (hv : q.v ≠ 0) (e1 : S = q.u * m) (e2 : S = q.v * n) : tq (S * k) q = (k * (tq S q).1, k * (tq S q).2) := by
  have f1 : S / q.u = m := by rw [e1]; exact Int.mul_ediv_cancel_left _ hu
  have f2 : S / q.v = n := by rw [e2]; exact Int.mul_ediv_cancel_left _ hv
  have g1 : S * k / q.u = m * k := by rw [e1, Int.mul_assoc]; exact Int.mul_ediv_cancel_left _ hu
  have g2 : S * k / q.v = n * k := by rw [e2, Int.mul_assoc]; exact Int.mul_ediv_cancel_left _ hv
  unfold tq
  rw [f1, f2, g1, g2, Prod.mk.injEq]
  exact ⟨by grind, by grind⟩
theorem ori_scale (k : Int) (a b c : Dr) : ori (k * a.1, k * a.2) (k * b.1, k * b.2) (k * c.1, k * c.2) = k * k * ori a b c := by unfold ori crs sub; simp only; grind
theorem sgn_scale {k x : Int} (hk : 0 < k) : (0 ≤ k * k * x ↔ 0 ≤ x) ∧ (k * k * x ≤ 0 ↔ x ≤ 0) := by
  have hk2 := Int.mul_pos hk hk
  rcases Int.lt_trichotomy x 0 with h | h | h
  · have := Int.mul_neg_of_pos_of_neg hk2 h; omega
  · subst h; simp
  · have := Int.mul_pos hk2 h; omega
/-- the corner is divided -/
theorem dvs (q r s : Q2) : (szQ q r s = q.u * (q.v * (r.u * r.v) * (s.u * s.v)) ∧ szQ q r s = q.v * (q.u * (r.u * r.v) * (s.u * s.v))) ∧ (szQ q r s = r.u * (q.u * q.v * r.v * (s.u * s.v)) ∧ szQ q r s = r.v * (q.u * q.v * r.u * (s.u * s.v))) ∧ (szQ q r s = s.u * (q.u * q.v * (r.u * r.v) * s.v) ∧ szQ q r s = s.v * (q.u * q.v * (r.u * r.v) * s.u)) := by
  unfold szQ
  refine ⟨⟨?_, ?_⟩, ⟨?_, ?_⟩, ?_, ?_⟩ <;> grind
theorem inside_eq {s0 s1 s2 : Si} {a b c : Q2} {s : Dr} (g0 : Sg s0.1 s0.2) (g1 : Sg s1.1 s1.2) (g2 : Sg s2.1 s2.2) (hc : cors s0 s1 s2 = some (a, b, c)) (hA : crQ a b c ≠ 0) :
    sgnB a b c (ptQ s) = decide (0 ≤ sdQ s0.1 s0.2 (ptQ s) * sdQ s0.1 s0.2 c ∧ 0 ≤ sdQ s1.1 s1.2 (ptQ s) * sdQ s1.1 s1.2 b ∧ 0 ≤ sdQ s2.1 s2.2 (ptQ s) * sdQ s2.1 s2.2 a) := by
  obtain ⟨⟨oa, ob, oc⟩, m0, m1, m2⟩ := cors_ok g0 g1 g2 hc
  have on0 := meet_on m0
  have on1 := meet_on m1
  have on2 := meet_on m2
  obtain ⟨D, hD⟩ : ∃ D, D = szQ a b c := ⟨_, rfl⟩
  have pD : 0 < D := by rw [hD]; exact (szQ_pos oa ob oc).1
  obtain ⟨⟨da1, da2⟩, ⟨db1, db2⟩, dc1, dc2⟩ := dvs a b c
  rw [← hD] at da1 da2 db1 db2 dc1 dc2
  have ua := Int.ne_of_gt oa.u0
  have va := Int.ne_of_gt oa.v0
  have ub := Int.ne_of_gt ob.u0
  have vb := Int.ne_of_gt ob.v0
  have uc := Int.ne_of_gt oc.u0
  have vc := Int.ne_of_gt oc.v0
  have up : (ptQ s).u = 1 := rfl
  have vp : (ptQ s).v = 1 := rfl
  have up0 : (ptQ s).u ≠ 0 := by rw [up]; decide
  have vp0 : (ptQ s).v ≠ 0 := by rw [vp]; decide
  have dp1 : D = (ptQ s).u * D := by rw [up, Int.one_mul]
  have dp2 : D = (ptQ s).v * D := by rw [vp, Int.one_mul]
  have pa := Int.mul_pos oa.u0 oa.v0
  have pb := Int.mul_pos ob.u0 ob.v0
  have pc := Int.mul_pos oc.u0 oc.v0
  -- the areas
  have rab : crQ a b c = ori (tq D a) (tq D b) (tq D c) := by unfold crQ; rw [← hD]
  have scale : ∀ (x y : Q2) (k : Int), 0 < k → D = szQ x y (ptQ s) * k → x.u ≠ 0 → x.v ≠ 0 → y.u ≠ 0 → y.v ≠ 0 → k * k * crQ x y (ptQ s) = ori (tq D x) (tq D y) (tq D (ptQ s)) := by
    intro x y k hk e h1 h2 h3 h4
    obtain ⟨⟨q1, q2⟩, ⟨q3, q4⟩, q5, q6⟩ := dvs x y (ptQ s)
    rw [e, tq_scale h1 h2 q1 q2, tq_scale h3 h4 q3 q4, tq_scale up0 vp0 q5 q6, ori_scale]
    rfl
  have ep : ∀ x y z : Int, x * y * (1 * 1) * z = x * y * z := fun x y z => by simp
  have E1 := scale a b (c.u * c.v) pc (by rw [hD]; unfold szQ; rw [up, vp, ep]) ua va ub vb
  have E2 := scale b c (a.u * a.v) pa (by rw [hD]; unfold szQ; rw [up, vp, ep]; grind) ub vb uc vc
  have E3 := scale c a (b.u * b.v) pb (by rw [hD]; unfold szQ; rw [up, vp, ep]; grind) uc vc ua va
  have S1 := sgn_scale (x := crQ a b (ptQ s)) pc
  have S2 := sgn_scale (x := crQ b c (ptQ s)) pa
  have S3 := sgn_scale (x := crQ c a (ptQ s)) pb
  rw [E1] at S1
  rw [E2] at S2
  rw [E3] at S3
  -- the sides
  have side : ∀ (P w : Dr) (q : Q2) (m n : Int), q.u ≠ 0 → q.v ≠ 0 → D = q.u * m → D = q.v * n → sdQ P w q * D = (q.u * q.v) * crs w (sub (tq D q) (D * P.1, D * P.2)) := fun P w q m n h1 h2 h3 h4 => sd_scale h1 h2 h3 h4
  have zero : ∀ (P w : Dr) (q : Q2) (m n : Int), q.u ≠ 0 → q.v ≠ 0 → D = q.u * m → D = q.v * n → sdQ P w q = 0 → crs w (sub (tq D q) (D * P.1, D * P.2)) = 0 := fun P w q m n h1 h2 h3 h4 z => by
    have := side P w q m n h1 h2 h3 h4
    rw [z, Int.zero_mul] at this
    rcases Int.mul_eq_zero.mp this.symm with h | h
    · rcases Int.mul_eq_zero.mp h with h | h
      · exact absurd h h1
      · exact absurd h h2
    · exact h
  have prod : ∀ (P w : Dr) (q : Q2) (m n : Int), 0 < q.u → 0 < q.v → D = q.u * m → D = q.v * n → (0 ≤ sdQ P w (ptQ s) * sdQ P w q ↔ 0 ≤ crs w (sub (tq D (ptQ s)) (D * P.1, D * P.2)) * crs w (sub (tq D q) (D * P.1, D * P.2))) := fun P w q m n h1 h2 h3 h4 => by
    have e1 := side P w q m n (Int.ne_of_gt h1) (Int.ne_of_gt h2) h3 h4
    have e2 := side P w (ptQ s) D D up0 vp0 dp1 dp2
    rw [up, vp, Int.one_mul, Int.one_mul] at e2
    generalize crs w (sub (tq D (ptQ s)) (D * P.1, D * P.2)) = k1 at *
    generalize crs w (sub (tq D q) (D * P.1, D * P.2)) = k2 at *
    generalize sdQ P w (ptQ s) = x at *
    generalize sdQ P w q = y at *
    have huv := Int.mul_pos h1 h2
    have e3 : D * D * (x * y) = (q.u * q.v) * (k1 * k2) := by
      have : D * D * (x * y) = (x * D) * (y * D) := by grind
      rw [this, e1, e2]
      grind
    have t1 := (sgn_scale (x := x * y) pD).1
    rw [e3] at t1
    rw [← t1]
    generalize q.u * q.v = uv at *
    rcases Int.lt_trichotomy (k1 * k2) 0 with h | h | h
    · have := Int.mul_neg_of_pos_of_neg huv h; omega
    · rw [h]; simp
    · have := Int.mul_pos huv h; omega
  have P0 := prod s0.1 s0.2 c _ _ oc.u0 oc.v0 dc1 dc2
  have P1 := prod s1.1 s1.2 b _ _ ob.u0 ob.v0 db1 db2
  have P2 := prod s2.1 s2.2 a _ _ oa.u0 oa.v0 da1 da2
  rw [rab] at hA
  have L0 := ori_side (a := tq D a) (b := tq D b) (p := tq D (ptQ s)) (c := tq D c) g0.n (zero s0.1 s0.2 a _ _ ua va da1 da2 on0.1) (zero s0.1 s0.2 b _ _ ub vb db1 db2 on1.1) hA
  have hA2 : ori (tq D b) (tq D c) (tq D a) ≠ 0 := by rw [ori_rot]; exact hA
  have hA3 : ori (tq D c) (tq D a) (tq D b) ≠ 0 := by rw [ori_rot, ori_rot]; exact hA
  have L2' := ori_side (a := tq D b) (b := tq D c) (p := tq D (ptQ s)) (c := tq D a) g2.n (zero s2.1 s2.2 b _ _ ub vb db1 db2 on1.2) (zero s2.1 s2.2 c _ _ uc vc dc1 dc2 on2.2) hA2
  have L1 := ori_side (a := tq D c) (b := tq D a) (p := tq D (ptQ s)) (c := tq D b) g1.n (zero s1.1 s1.2 c _ _ uc vc dc1 dc2 on2.1) (zero s1.1 s1.2 a _ _ ua va da1 da2 on0.2) hA3
  have r1 : ori (tq D b) (tq D c) (tq D a) = ori (tq D a) (tq D b) (tq D c) := ori_rot _ _ _
  have r2 : ori (tq D c) (tq D a) (tq D b) = ori (tq D a) (tq D b) (tq D c) := by rw [ori_rot, ori_rot]
  rw [r1] at L2'
  rw [r2] at L1
  have sum := ori_sum (tq D a) (tq D b) (tq D c) (tq D (ptQ s))
  have fin := all_signs sum hA
  unfold sgnB
  rw [Bool.eq_iff_iff]
  simp only [decide_eq_true_eq]
  rw [P0, P1, P2, ← L0, ← L1, ← L2', ← S1.1, ← S2.1, ← S3.1, ← S1.2, ← S2.2, ← S3.2, fin]
  constructor
  · rintro ⟨x, y, z⟩; exact ⟨x, z, y⟩
  · rintro ⟨x, y, z⟩; exact ⟨x, z, y⟩
end WY
namespace L24
open PySem PySem.Spec PyProof.Rows L2 VL PF
/-! the plain functions of this law alone -/
def mt_BadWay : Nat → Option Bool := fun k => ([none, none, none, none, none, none, none, none, some true, none, none, none, none, none, none, none, none, some false, none, none, none, none, none, none, none, some false, none] : List (Option Bool)).getD k none
def mt_LightError : Nat → Option Bool := fun k => ([none, none, none, none, none, none, none, none, some true, none, none, none, none, none, none, none, none, some true, none, none, none, none, none, none, none, some true, none] : List (Option Bool)).getD k none
def mt_OutOfRange : Nat → Option Bool := fun k => ([none, none, none, none, none, none, none, none, some false, none, none, none, none, none, none, none, none, some true, none, none, none, none, none, none, none, some false, none] : List (Option Bool)).getD k none
def mt_Unequal : Nat → Option Bool := fun k => ([none, none, none, none, none, none, none, none, some false, none, none, none, none, none, none, none, none, some false, none, none, none, none, none, none, none, some true, none] : List (Option Bool)).getD k none
/-- _law_told (147): 0 way, 1 a, 2 b, 3 c, 4 d, 5 e -/
noncomputable def b__law_told_v16 (F : Nat → List PV → R PV) : VL.Env → Out := sTry (sSeq (sIf [] (eTst (e2 eqP (eVar 0) (eC (.int 0)))) (sRet [] (eArgs gTupV [eC (.str "value"), eArgs (gN 4 (F 319)) [eVar 1, eVar 2, eVar 3, eVar 4]])) (sPass)) (sSeq (sIf [] (eTst (e2 eqP (eVar 0) (eC (.int 1)))) (sRet [] (eArgs gTupV [eC (.str "value"), eArgs (gN 1 (F 338)) [eVar 1]])) (sPass)) (sSeq (sIf [] (eTst (e2 eqP (eVar 0) (eC (.int 2)))) (sRet [] (eArgs gTupV [eC (.str "value"), eArgs (gN 2 (F 345)) [eVar 1, eVar 2]])) (sPass)) (sRet [] (eArgs gTupV [eC (.str "value"), eArgs (gN 3 (F 579)) [eVar 1, eVar 2, eVar 3]]))))) [.nm mt_BadWay 5 (xTup (xCons (xC (.str "way")) (xCons (xF 8 "number") (xNil)))), .nm mt_OutOfRange 5 (xTup (xCons (xC (.str "range")) (xCons (xF 17 "value") (xNil)))), .nm mt_Unequal 5 (xTup (xCons (xC (.str "unequal")) (xCons (xF 25 "value") (xNil)))), .un mt_LightError (sRet [] (eArgs gTupV [eC (.str "other"), eC (.int 0)]))]
noncomputable def tabL (F : Nat → List PV → R PV) : List (Nat × (List PV → R PV)) := [(330, fun us => outR (b_gcd_of F (startE 2 us))),
  (453, fun us => outR (b_lowest F (startE 3 us))),
  (382, fun us => outR (b_is_way F (startE 2 us))),
  (261, fun us => outR (b_check_ways F (startE 3 us))),
  (242, fun us => outR (b_check_place F (startE 2 us))),
  (285, fun us => outR (b_cross F (startE 2 us))),
  (296, fun us => outR (b_dot F (startE 2 us))),
  (646, fun us => outR (b_way_between F (startE 2 us))),
  (659, fun us => outR (b_word_of_v1 F (startE 1 us))),
  (480, fun us => outR (b_off_by F (startE 4 us))),
  (287, fun us => outR (b_crossing_of F (startE 9 us))),
  (379, fun us => outR (b_is_seen_so F (startE 6 us))),
  (319, fun us => outR (b_fix_by F (startE 5 us))),
  (252, fun us => outR (b_check_sights F (startE 4 us))),
  (279, fun us => outR (b_corners_of F (startE 4 us))),
  (638, fun us => outR (b_twice_area F (startE 6 us))),
  (338, fun us => outR (b_hat_of F (startE 3 us))),
  (345, fun us => outR (b_inside_hat F (startE 6 us))),
  (579, fun us => outR (b_sight_error F (startE 3 us))),
  (13, fun us => outR (b__law_cell F (startE 2 us))),
  (22, fun us => outR (b__law_draw F (startE 7 us))),
  (166, fun us => outR (b__law_way F (startE 4 us))),
  (163, fun us => outR (b__law_turn_of F (startE 2 us))),
  (105, fun us => outR (b__law_ship F (startE 3 us))),
  (55, fun us => outR (b__law_lowest_v0 F (startE 6 us))),
  (147, fun us => outR (b__law_told_v16 F (startE 6 us))),
  (63, fun us => outR (b__law_meet F (startE 7 us))),
  (34, fun us => outR (b__law_fix F (startE 9 us))),
  (112, fun us => outR (b__law_side_of F (startE 4 us))),
  (418, fun us => outR (b_law_v20 F (startE 27 us)))]
noncomputable def step (F : Nat → List PV → R PV) : Nat → List PV → R PV := look (tabL F)
noncomputable def FT : Nat → Nat → List PV → R PV
  | 0 => fun _ _ => .stuck
  | d + 1 => step (FT d)
/-! the text -/
def topS (i : Nat) : Stmt := PySem.Challenge.pw_lightbook_k24_fixes.main.body.getD i (.Pass ⟨0, 0, 0, 0⟩)
theorem sc_0 : FnScope ["a", "b"] ["a", "b"] (defScope (topS 6)) := ⟨rfl, rfl, rfl, by decide +kernel, rfl, by decide +kernel, by decide +kernel⟩
theorem sc_1 : FnScope ["top", "bottom", "common"] ["top", "bottom"] (defScope (topS 8)) := ⟨rfl, rfl, rfl, by decide +kernel, rfl, by decide +kernel, by decide +kernel⟩
theorem sc_2 : FnScope ["way", "part"] ["way"] (defScope (topS 11)) := ⟨rfl, rfl, rfl, by decide +kernel, rfl, by decide +kernel, by decide +kernel⟩
theorem sc_3 : FnScope ["ways", "first", "at"] ["ways", "first"] (defScope (topS 12)) := ⟨rfl, rfl, rfl, by decide +kernel, rfl, by decide +kernel, by decide +kernel⟩
theorem sc_4 : FnScope ["place", "part"] ["place"] (defScope (topS 13)) := ⟨rfl, rfl, rfl, by decide +kernel, rfl, by decide +kernel, by decide +kernel⟩
theorem sc_5 : FnScope ["a", "b"] ["a", "b"] (defScope (topS 14)) := ⟨rfl, rfl, rfl, by decide +kernel, rfl, by decide +kernel, by decide +kernel⟩
theorem sc_6 : FnScope ["a", "b"] ["a", "b"] (defScope (topS 15)) := ⟨rfl, rfl, rfl, by decide +kernel, rfl, by decide +kernel, by decide +kernel⟩
theorem sc_7 : FnScope ["one", "other"] ["one", "other"] (defScope (topS 16)) := ⟨rfl, rfl, rfl, by decide +kernel, rfl, by decide +kernel, by decide +kernel⟩
theorem sc_8 : FnScope ["side"] ["side"] (defScope (topS 18)) := ⟨rfl, rfl, rfl, by decide +kernel, rfl, by decide +kernel, by decide +kernel⟩
theorem sc_9 : FnScope ["place", "way", "ship", "side"] ["place", "way", "ship"] (defScope (topS 19)) := ⟨rfl, rfl, rfl, by decide +kernel, rfl, by decide +kernel, by decide +kernel⟩
theorem sc_10 : FnScope ["one", "way", "other", "second", "bottom", "top", "sign", "parts", "at"] ["one", "way", "other", "second"] (defScope (topS 22)) := ⟨rfl, rfl, rfl, by decide +kernel, rfl, by decide +kernel, by decide +kernel⟩
theorem sc_11 : FnScope ["place", "light", "way", "size", "ahead", "at"] ["place", "light", "way"] (defScope (topS 23)) := ⟨rfl, rfl, rfl, by decide +kernel, rfl, by decide +kernel, by decide +kernel⟩
theorem sc_12 : FnScope ["one", "way", "other", "second", "place"] ["one", "way", "other", "second"] (defScope (topS 24)) := ⟨rfl, rfl, rfl, by decide +kernel, rfl, by decide +kernel, by decide +kernel⟩
theorem sc_13 : FnScope ["sights", "at", "place", "_"] ["sights"] (defScope (topS 25)) := ⟨rfl, rfl, rfl, by decide +kernel, rfl, by decide +kernel, by decide +kernel⟩
theorem sc_14 : FnScope ["sights", "found", "one", "other"] ["sights"] (defScope (topS 26)) := ⟨rfl, rfl, rfl, by decide +kernel, rfl, by decide +kernel, by decide +kernel⟩
theorem sc_15 : FnScope ["corners", "size", "corner", "told", "x", "y"] ["corners"] (defScope (topS 27)) := ⟨rfl, rfl, rfl, by decide +kernel, rfl, by decide +kernel, by decide +kernel⟩
theorem sc_16 : FnScope ["sights", "corners", "area"] ["sights"] (defScope (topS 28)) := ⟨rfl, rfl, rfl, by decide +kernel, rfl, by decide +kernel, by decide +kernel⟩
theorem sc_17 : FnScope ["sights", "ship", "corners", "point", "signs", "at"] ["sights", "ship"] (defScope (topS 29)) := ⟨rfl, rfl, rfl, by decide +kernel, rfl, by decide +kernel, by decide +kernel⟩
theorem sc_18 : FnScope ["place", "way", "ship"] ["place", "way", "ship"] (defScope (topS 30)) := ⟨rfl, rfl, rfl, by decide +kernel, rfl, by decide +kernel, by decide +kernel⟩
theorem sc_19 : FnScope ["script", "k"] ["script", "k"] (defScope (topS 32)) := ⟨rfl, rfl, rfl, by decide +kernel, rfl, by decide +kernel, by decide +kernel⟩
theorem sc_20 : FnScope ["cell", "limits", "row", "rest", "great", "k", "mixed"] ["cell", "limits"] (defScope (topS 33)) := ⟨rfl, rfl, rfl, by decide +kernel, rfl, by decide +kernel, by decide +kernel⟩
theorem sc_21 : FnScope ["cell", "wide", "d", "way"] ["cell", "wide"] (defScope (topS 34)) := ⟨rfl, rfl, rfl, by decide +kernel, rfl, by decide +kernel, by decide +kernel⟩
theorem sc_22 : FnScope ["a", "b"] ["a", "b"] (defScope (topS 35)) := ⟨rfl, rfl, rfl, by decide +kernel, rfl, by decide +kernel, by decide +kernel⟩
theorem sc_23 : FnScope ["cell", "wide", "d"] ["cell", "wide"] (defScope (topS 36)) := ⟨rfl, rfl, rfl, by decide +kernel, rfl, by decide +kernel, by decide +kernel⟩
theorem sc_24 : FnScope ["top", "bottom", "a", "b", "k", "rest"] ["top", "bottom"] (defScope (topS 37)) := ⟨rfl, rfl, rfl, by decide +kernel, rfl, by decide +kernel, by decide +kernel⟩
theorem sc_25 : FnScope ["way", "a", "b", "c", "d", "e"] ["way", "a", "b", "c", "d"] (defScope (topS 38)) := ⟨rfl, rfl, rfl, by decide +kernel, rfl, by decide +kernel, by decide +kernel⟩
theorem sc_26 : FnScope ["one", "way", "other", "second", "turn", "gap", "k"] ["one", "way", "other", "second"] (defScope (topS 39)) := ⟨rfl, rfl, rfl, by decide +kernel, rfl, by decide +kernel, by decide +kernel⟩
theorem sc_27 : FnScope ["one", "way", "other", "second", "spot", "pair", "x", "y", "along"] ["one", "way", "other", "second"] (defScope (topS 40)) := ⟨rfl, rfl, rfl, by decide +kernel, rfl, by decide +kernel, by decide +kernel⟩
theorem sc_28 : FnScope ["sight", "spot", "x", "y"] ["sight", "spot"] (defScope (topS 41)) := ⟨rfl, rfl, rfl, by decide +kernel, rfl, by decide +kernel, by decide +kernel⟩
theorem sc_29 : FnScope ["script", "one", "other", "third", "way", "second", "last", "ship", "sights", "pairs", "corners", "due", "xs", "common", "corner", "area", "hat", "inside", "spot", "k", "across", "told", "cross_v", "off", "square", "none", "pair"] ["script"] (defScope (topS 42)) := ⟨rfl, rfl, rfl, by decide +kernel, rfl, by decide +kernel, by decide +kernel⟩
structure Tx (P : Program) (w : World) (K : PySem.W.Frag) (mg : Str → Option Value) (base : Heap) (cl : Nat → Addr) : Prop where
  z_abs : mg "abs" = none
  z_bool : mg "bool" = none
  z_int : mg "int" = none
  z_isinstance : mg "isinstance" = none
  z_len : mg "len" = none
  z_list : mg "list" = none
  z_max : mg "max" = none
  z_min : mg "min" = none
  z_range : mg "range" = none
  z_tuple : mg "tuple" = none
  c_MOST_PLACE : GlobV K cl mg "MOST_PLACE" c_MOST_PLACE
  c_SIGHTS : GlobV K cl mg "SIGHTS" c_SIGHTS
  x_OutOfRange : ExcAt P w K mg base cl 1 "OutOfRange" 17 1 sp_OutOfRange
  x_BadWay : ExcAt P w K mg base cl 1 "BadWay" 8 1 sp_BadWay
  x_Unequal : ExcAt P w K mg base cl 1 "Unequal" 25 1 sp_Unequal
  m_BadWay : ExmAt K mg cl "BadWay" mt_BadWay
  m_LightError : ExmAt K mg cl "LightError" mt_LightError
  m_OutOfRange : ExmAt K mg cl "OutOfRange" mt_OutOfRange
  m_Unequal : ExmAt K mg cl "Unequal" mt_Unequal
  f_BadWay_number : FldAt K cl 8 "number"
  f_OutOfRange_value : FldAt K cl 17 "value"
  f_Unequal_value : FldAt K cl 25 "value"
structure TxD (P : Program) (w : World) (K : PySem.W.Frag) (mg : Str → Option Value) (base : Heap) (cl : Nat → Addr) (d : Nat) : Prop where
  d_gcd_of : DefAt P w K mg base cl (d + 2) "gcd_of" 2 (FT d 330)
  d_lowest : DefAt P w K mg base cl (d + 2) "lowest" 2 (FT d 453)
  d_is_way : DefAt P w K mg base cl (d + 2) "is_way" 1 (FT d 382)
  d_check_ways : DefAt P w K mg base cl (d + 2) "check_ways" 2 (FT d 261)
  d_check_place : DefAt P w K mg base cl (d + 2) "check_place" 1 (FT d 242)
  d_cross : DefAt P w K mg base cl (d + 2) "cross" 2 (FT d 285)
  d_dot : DefAt P w K mg base cl (d + 2) "dot" 2 (FT d 296)
  d_way_between : DefAt P w K mg base cl (d + 2) "way_between" 2 (FT d 646)
  d_word_of : DefAt P w K mg base cl (d + 2) "word_of" 1 (FT d 659)
  d_off_by : DefAt P w K mg base cl (d + 2) "off_by" 3 (FT d 480)
  d_crossing_of : DefAt P w K mg base cl (d + 2) "crossing_of" 4 (FT d 287)
  d_is_seen_so : DefAt P w K mg base cl (d + 2) "is_seen_so" 3 (FT d 379)
  d_fix_by : DefAt P w K mg base cl (d + 2) "fix_by" 4 (FT d 319)
  d_check_sights : DefAt P w K mg base cl (d + 2) "check_sights" 1 (FT d 252)
  d_corners_of : DefAt P w K mg base cl (d + 2) "corners_of" 1 (FT d 279)
  d_twice_area : DefAt P w K mg base cl (d + 2) "twice_area" 1 (FT d 638)
  d_hat_of : DefAt P w K mg base cl (d + 2) "hat_of" 1 (FT d 338)
  d_inside_hat : DefAt P w K mg base cl (d + 2) "inside_hat" 2 (FT d 345)
  d_sight_error : DefAt P w K mg base cl (d + 2) "sight_error" 3 (FT d 579)
  d__law_cell : DefAt P w K mg base cl (d + 2) "_law_cell" 2 (FT d 13)
  d__law_draw : DefAt P w K mg base cl (d + 2) "_law_draw" 2 (FT d 22)
  d__law_way : DefAt P w K mg base cl (d + 2) "_law_way" 2 (FT d 166)
  d__law_turn_of : DefAt P w K mg base cl (d + 2) "_law_turn_of" 2 (FT d 163)
  d__law_ship : DefAt P w K mg base cl (d + 2) "_law_ship" 2 (FT d 105)
  d__law_lowest : DefAt P w K mg base cl (d + 2) "_law_lowest" 2 (FT d 55)
  d__law_told : DefAt P w K mg base cl (d + 2) "_law_told" 5 (FT d 147)
  d__law_meet : DefAt P w K mg base cl (d + 2) "_law_meet" 4 (FT d 63)
  d__law_fix : DefAt P w K mg base cl (d + 2) "_law_fix" 4 (FT d 34)
  d__law_side_of : DefAt P w K mg base cl (d + 2) "_law_side_of" 2 (FT d 112)
  d_law : DefAt P w K mg base cl (d + 2) "law" 1 (FT d 418)
structure Txt (K : PySem.W.Frag) (mg : Str → Option Value) : Prop where
  g_gcd_of : ∃ f fd, Fun K "gcd_of" "gcd_of" (topS 6) f fd ∧ mg "gcd_of" = some (.ref f)
  g_lowest : ∃ f fd, Fun K "lowest" "lowest" (topS 8) f fd ∧ mg "lowest" = some (.ref f)
  g_is_way : ∃ f fd, Fun K "is_way" "is_way" (topS 11) f fd ∧ mg "is_way" = some (.ref f)
  g_check_ways : ∃ f fd, Fun K "check_ways" "check_ways" (topS 12) f fd ∧ mg "check_ways" = some (.ref f)
  g_check_place : ∃ f fd, Fun K "check_place" "check_place" (topS 13) f fd ∧ mg "check_place" = some (.ref f)
  g_cross : ∃ f fd, Fun K "cross" "cross" (topS 14) f fd ∧ mg "cross" = some (.ref f)
  g_dot : ∃ f fd, Fun K "dot" "dot" (topS 15) f fd ∧ mg "dot" = some (.ref f)
  g_way_between : ∃ f fd, Fun K "way_between" "way_between" (topS 16) f fd ∧ mg "way_between" = some (.ref f)
  g_word_of : ∃ f fd, Fun K "word_of" "word_of" (topS 18) f fd ∧ mg "word_of" = some (.ref f)
  g_off_by : ∃ f fd, Fun K "off_by" "off_by" (topS 19) f fd ∧ mg "off_by" = some (.ref f)
  g_crossing_of : ∃ f fd, Fun K "crossing_of" "crossing_of" (topS 22) f fd ∧ mg "crossing_of" = some (.ref f)
  g_is_seen_so : ∃ f fd, Fun K "is_seen_so" "is_seen_so" (topS 23) f fd ∧ mg "is_seen_so" = some (.ref f)
  g_fix_by : ∃ f fd, Fun K "fix_by" "fix_by" (topS 24) f fd ∧ mg "fix_by" = some (.ref f)
  g_check_sights : ∃ f fd, Fun K "check_sights" "check_sights" (topS 25) f fd ∧ mg "check_sights" = some (.ref f)
  g_corners_of : ∃ f fd, Fun K "corners_of" "corners_of" (topS 26) f fd ∧ mg "corners_of" = some (.ref f)
  g_twice_area : ∃ f fd, Fun K "twice_area" "twice_area" (topS 27) f fd ∧ mg "twice_area" = some (.ref f)
  g_hat_of : ∃ f fd, Fun K "hat_of" "hat_of" (topS 28) f fd ∧ mg "hat_of" = some (.ref f)
  g_inside_hat : ∃ f fd, Fun K "inside_hat" "inside_hat" (topS 29) f fd ∧ mg "inside_hat" = some (.ref f)
  g_sight_error : ∃ f fd, Fun K "sight_error" "sight_error" (topS 30) f fd ∧ mg "sight_error" = some (.ref f)
  g__law_cell : ∃ f fd, Fun K "_law_cell" "_law_cell" (topS 32) f fd ∧ mg "_law_cell" = some (.ref f)
  g__law_draw : ∃ f fd, Fun K "_law_draw" "_law_draw" (topS 33) f fd ∧ mg "_law_draw" = some (.ref f)
  g__law_way : ∃ f fd, Fun K "_law_way" "_law_way" (topS 34) f fd ∧ mg "_law_way" = some (.ref f)
  g__law_turn_of : ∃ f fd, Fun K "_law_turn_of" "_law_turn_of" (topS 35) f fd ∧ mg "_law_turn_of" = some (.ref f)
  g__law_ship : ∃ f fd, Fun K "_law_ship" "_law_ship" (topS 36) f fd ∧ mg "_law_ship" = some (.ref f)
  g__law_lowest : ∃ f fd, Fun K "_law_lowest" "_law_lowest" (topS 37) f fd ∧ mg "_law_lowest" = some (.ref f)
  g__law_told : ∃ f fd, Fun K "_law_told" "_law_told" (topS 38) f fd ∧ mg "_law_told" = some (.ref f)
  g__law_meet : ∃ f fd, Fun K "_law_meet" "_law_meet" (topS 39) f fd ∧ mg "_law_meet" = some (.ref f)
  g__law_fix : ∃ f fd, Fun K "_law_fix" "_law_fix" (topS 40) f fd ∧ mg "_law_fix" = some (.ref f)
  g__law_side_of : ∃ f fd, Fun K "_law_side_of" "_law_side_of" (topS 41) f fd ∧ mg "_law_side_of" = some (.ref f)
  g_law : ∃ f fd, Fun K "law" "law" (topS 42) f fd ∧ mg "law" = some (.ref f)
section
variable {P : Program} {w : World} {K : PySem.W.Frag} {mg : Str → Option Value} {base : Heap} {cl : Nat → Addr} {d : Nat}
theorem bd_0 {f : Addr} {fd : FuncData} (F : Fun K "gcd_of" "gcd_of" (topS 6) f fd) : Binds K fd ["a", "b"] [] := F.binds fun _ _ _ _ _ _ us hl => match us, hl with | [_, _], _ => rfl
theorem bd_1 {f : Addr} {fd : FuncData} (F : Fun K "lowest" "lowest" (topS 8) f fd) : Binds K fd ["top", "bottom"] [] := F.binds fun _ _ _ _ _ _ us hl => match us, hl with | [_, _], _ => rfl
theorem bd_2 {f : Addr} {fd : FuncData} (F : Fun K "is_way" "is_way" (topS 11) f fd) : Binds K fd ["way"] [] := F.binds fun _ _ _ _ _ _ us hl => match us, hl with | [_], _ => rfl
theorem bd_3 {f : Addr} {fd : FuncData} (F : Fun K "check_ways" "check_ways" (topS 12) f fd) : Binds K fd ["ways", "first"] [] := F.binds fun _ _ _ _ _ _ us hl => match us, hl with | [_, _], _ => rfl
theorem bd_4 {f : Addr} {fd : FuncData} (F : Fun K "check_place" "check_place" (topS 13) f fd) : Binds K fd ["place"] [] := F.binds fun _ _ _ _ _ _ us hl => match us, hl with | [_], _ => rfl
theorem bd_5 {f : Addr} {fd : FuncData} (F : Fun K "cross" "cross" (topS 14) f fd) : Binds K fd ["a", "b"] [] := F.binds fun _ _ _ _ _ _ us hl => match us, hl with | [_, _], _ => rfl
theorem bd_6 {f : Addr} {fd : FuncData} (F : Fun K "dot" "dot" (topS 15) f fd) : Binds K fd ["a", "b"] [] := F.binds fun _ _ _ _ _ _ us hl => match us, hl with | [_, _], _ => rfl
theorem bd_7 {f : Addr} {fd : FuncData} (F : Fun K "way_between" "way_between" (topS 16) f fd) : Binds K fd ["one", "other"] [] := F.binds fun _ _ _ _ _ _ us hl => match us, hl with | [_, _], _ => rfl
theorem bd_8 {f : Addr} {fd : FuncData} (F : Fun K "word_of" "word_of" (topS 18) f fd) : Binds K fd ["side"] [] := F.binds fun _ _ _ _ _ _ us hl => match us, hl with | [_], _ => rfl
theorem bd_9 {f : Addr} {fd : FuncData} (F : Fun K "off_by" "off_by" (topS 19) f fd) : Binds K fd ["place", "way", "ship"] [] := F.binds fun _ _ _ _ _ _ us hl => match us, hl with | [_, _, _], _ => rfl
theorem bd_10 {f : Addr} {fd : FuncData} (F : Fun K "crossing_of" "crossing_of" (topS 22) f fd) : Binds K fd ["one", "way", "other", "second"] [] := F.binds fun _ _ _ _ _ _ us hl => match us, hl with | [_, _, _, _], _ => rfl
theorem bd_11 {f : Addr} {fd : FuncData} (F : Fun K "is_seen_so" "is_seen_so" (topS 23) f fd) : Binds K fd ["place", "light", "way"] [] := F.binds fun _ _ _ _ _ _ us hl => match us, hl with | [_, _, _], _ => rfl
theorem bd_12 {f : Addr} {fd : FuncData} (F : Fun K "fix_by" "fix_by" (topS 24) f fd) : Binds K fd ["one", "way", "other", "second"] [] := F.binds fun _ _ _ _ _ _ us hl => match us, hl with | [_, _, _, _], _ => rfl
theorem bd_13 {f : Addr} {fd : FuncData} (F : Fun K "check_sights" "check_sights" (topS 25) f fd) : Binds K fd ["sights"] [] := F.binds fun _ _ _ _ _ _ us hl => match us, hl with | [_], _ => rfl
theorem bd_14 {f : Addr} {fd : FuncData} (F : Fun K "corners_of" "corners_of" (topS 26) f fd) : Binds K fd ["sights"] [] := F.binds fun _ _ _ _ _ _ us hl => match us, hl with | [_], _ => rfl
theorem bd_15 {f : Addr} {fd : FuncData} (F : Fun K "twice_area" "twice_area" (topS 27) f fd) : Binds K fd ["corners"] [] := F.binds fun _ _ _ _ _ _ us hl => match us, hl with | [_], _ => rfl
theorem bd_16 {f : Addr} {fd : FuncData} (F : Fun K "hat_of" "hat_of" (topS 28) f fd) : Binds K fd ["sights"] [] := F.binds fun _ _ _ _ _ _ us hl => match us, hl with | [_], _ => rfl
theorem bd_17 {f : Addr} {fd : FuncData} (F : Fun K "inside_hat" "inside_hat" (topS 29) f fd) : Binds K fd ["sights", "ship"] [] := F.binds fun _ _ _ _ _ _ us hl => match us, hl with | [_, _], _ => rfl
theorem bd_18 {f : Addr} {fd : FuncData} (F : Fun K "sight_error" "sight_error" (topS 30) f fd) : Binds K fd ["place", "way", "ship"] [] := F.binds fun _ _ _ _ _ _ us hl => match us, hl with | [_, _, _], _ => rfl
theorem bd_19 {f : Addr} {fd : FuncData} (F : Fun K "_law_cell" "_law_cell" (topS 32) f fd) : Binds K fd ["script", "k"] [] := F.binds fun _ _ _ _ _ _ us hl => match us, hl with | [_, _], _ => rfl
theorem bd_20 {f : Addr} {fd : FuncData} (F : Fun K "_law_draw" "_law_draw" (topS 33) f fd) : Binds K fd ["cell", "limits"] [] := F.binds fun _ _ _ _ _ _ us hl => match us, hl with | [_, _], _ => rfl
theorem bd_21 {f : Addr} {fd : FuncData} (F : Fun K "_law_way" "_law_way" (topS 34) f fd) : Binds K fd ["cell", "wide"] [] := F.binds fun _ _ _ _ _ _ us hl => match us, hl with | [_, _], _ => rfl
theorem bd_22 {f : Addr} {fd : FuncData} (F : Fun K "_law_turn_of" "_law_turn_of" (topS 35) f fd) : Binds K fd ["a", "b"] [] := F.binds fun _ _ _ _ _ _ us hl => match us, hl with | [_, _], _ => rfl
theorem bd_23 {f : Addr} {fd : FuncData} (F : Fun K "_law_ship" "_law_ship" (topS 36) f fd) : Binds K fd ["cell", "wide"] [] := F.binds fun _ _ _ _ _ _ us hl => match us, hl with | [_, _], _ => rfl
theorem bd_24 {f : Addr} {fd : FuncData} (F : Fun K "_law_lowest" "_law_lowest" (topS 37) f fd) : Binds K fd ["top", "bottom"] [] := F.binds fun _ _ _ _ _ _ us hl => match us, hl with | [_, _], _ => rfl
theorem bd_25 {f : Addr} {fd : FuncData} (F : Fun K "_law_told" "_law_told" (topS 38) f fd) : Binds K fd ["way", "a", "b", "c", "d"] [] := F.binds fun _ _ _ _ _ _ us hl => match us, hl with | [_, _, _, _, _], _ => rfl
theorem bd_26 {f : Addr} {fd : FuncData} (F : Fun K "_law_meet" "_law_meet" (topS 39) f fd) : Binds K fd ["one", "way", "other", "second"] [] := F.binds fun _ _ _ _ _ _ us hl => match us, hl with | [_, _, _, _], _ => rfl
theorem bd_27 {f : Addr} {fd : FuncData} (F : Fun K "_law_fix" "_law_fix" (topS 40) f fd) : Binds K fd ["one", "way", "other", "second"] [] := F.binds fun _ _ _ _ _ _ us hl => match us, hl with | [_, _, _, _], _ => rfl
theorem bd_28 {f : Addr} {fd : FuncData} (F : Fun K "_law_side_of" "_law_side_of" (topS 41) f fd) : Binds K fd ["sight", "spot"] [] := F.binds fun _ _ _ _ _ _ us hl => match us, hl with | [_, _], _ => rfl
theorem bd_29 {f : Addr} {fd : FuncData} (F : Fun K "law" "law" (topS 42) f fd) : Binds K fd ["script"] [] := F.binds fun _ _ _ _ _ _ us hl => match us, hl with | [_], _ => rfl
theorem ok_0 (T : Tx P w K mg base cl) (TD : TxD P w K mg base cl d) {f : Addr} {cdv : Value} {A : Around} {outer : List PySem.Env} {s : Shared} {H : Hp} {E : XK} {He : Hp} (hr : Room (d + 2) (A.deeper (envOfC "gcd_of" (defScope (topS 6)) s.heap.objs.size f cdv))) :
    PVs (cxOf (L2.CX P w) P w K mg base ["a", "b"] "gcd_of" (defScope (topS 6)) f cdv A outer s H E) cl (fun c d _ H => E c d H) He H (defBody (topS 6)) (b_gcd_of (FT d)) := by
  have tk : Takes (cxOf (L2.CX P w) P w K mg base ["a", "b"] "gcd_of" (defScope (topS 6)) f cdv A outer s H E) (fun c d _ H => E c d H) := takes_of rfl rfl rfl rfl
  have hp := passes_of (X := cxOf (L2.CX P w) P w K mg base ["a", "b"] "gcd_of" (defScope (topS 6)) f cdv A outer s H E) rfl
  exact vs_cons (vs_while hp (vt_cmp op_gt ov_gt (ve_var 1) (ve_int)) (vs_one (vs_par (i := 0) (j := 1) rfl sc_0.nd (va_cons (ve_var 1) (va_cons (ve_bin op_mod ov_mod (ve_var 0) (ve_var 1)) (va_nil)))))) (vs_one (vs_ret (ve_var 0)))
theorem ok_1 (T : Tx P w K mg base cl) (TD : TxD P w K mg base cl d) {f : Addr} {cdv : Value} {A : Around} {outer : List PySem.Env} {s : Shared} {H : Hp} {E : XK} {He : Hp} (hr : Room (d + 2) (A.deeper (envOfC "lowest" (defScope (topS 8)) s.heap.objs.size f cdv))) :
    PVs (cxOf (L2.CX P w) P w K mg base ["top", "bottom", "common"] "lowest" (defScope (topS 8)) f cdv A outer s H E) cl (fun c d _ H => E c d H) He H (defBody (topS 8)) (b_lowest (FT d)) := by
  have tk : Takes (cxOf (L2.CX P w) P w K mg base ["top", "bottom", "common"] "lowest" (defScope (topS 8)) f cdv A outer s H E) (fun c d _ H => E c d H) := takes_of rfl rfl rfl rfl
  exact vs_cons (vs_set sc_1.nd (vc (TD.d_gcd_of) hr tk (va_cons (ve_callB call_abs cv_abs T.z_abs boot_abs (va_cons (ve_var 0) (va_nil))) (va_cons (ve_var 1) (va_nil))))) (vs_one (vs_ret (ve_tup (va_cons (ve_bin op_fdivS ov_div (ve_var 0) (ve_var 2)) (va_cons (ve_bin op_fdivS ov_div (ve_var 1) (ve_var 2)) (va_nil))))))
theorem ok_2 (T : Tx P w K mg base cl) (TD : TxD P w K mg base cl d) {f : Addr} {cdv : Value} {A : Around} {outer : List PySem.Env} {s : Shared} {H : Hp} {E : XK} {He : Hp} (hr : Room (d + 2) (A.deeper (envOfC "is_way" (defScope (topS 11)) s.heap.objs.size f cdv))) :
    PVs (cxOf (L2.CX P w) P w K mg base ["way", "part"] "is_way" (defScope (topS 11)) f cdv A outer s H E) cl (fun c d _ H => E c d H) He H (defBody (topS 11)) (b_is_way (FT d)) := by
  have tk : Takes (cxOf (L2.CX P w) P w K mg base ["way", "part"] "is_way" (defScope (topS 11)) f cdv A outer s H E) (fun c d _ H => E c d H) := takes_of rfl rfl rfl rfl
  exact vs_cons (vs_if (PW.pt (vw_or (vt_not (vt_tru (ve_callB call_isi cv_isa T.z_isinstance boot_isinstance (va_cons (ve_var 0) (va_cons ((ve_ty T.z_tuple boot_tuple)) (va_nil)))))) (vw_or (vt_cmp (or_ne (room64 hr)) ov_ne (ve_callB call_len cv_len T.z_len boot_len (va_cons (ve_var 0) (va_nil))) (ve_int)) (vw_or1 (vt_cmp (or_in (room65 hr)) ov_in (ve_bl) (ve_ofO (vo_lc (own := [(("part" : Str), 1)]) rfl sc_2.nd (vi_seq (ve_var 0)) wk_of (blk_of (by rfl)) (tg_name 1) (mem_tn rfl) (fun _ _ _ _ _ => pg_name (i := 1) sc_2.nd rfl (by first | exact Or.inl rfl | exact Or.inr rfl)) (fun _ _ _ _ _ => vts_nil) (fun _ _ _ _ _ => ve_callB call_isi cv_isa T.z_isinstance boot_isinstance (va_cons (ve_var 1) (va_cons ((ve_ty T.z_int boot_int)) (va_nil))))))))))) (vs_one (vs_ret (ve_bl))) (vs_nil)) (vs_one (vs_ret (ve_cmp (or_ne (room64 hr)) ov_ne (ve_var 0) (ve_tup (va_cons (ve_int) (va_cons (ve_int) (va_nil)))))))
theorem ok_3 (T : Tx P w K mg base cl) (TD : TxD P w K mg base cl d) {f : Addr} {cdv : Value} {A : Around} {outer : List PySem.Env} {s : Shared} {H : Hp} {E : XK} {He : Hp} (hr : Room (d + 2) (A.deeper (envOfC "check_ways" (defScope (topS 12)) s.heap.objs.size f cdv))) :
    PVs (cxOf (L2.CX P w) P w K mg base ["ways", "first", "at"] "check_ways" (defScope (topS 12)) f cdv A outer s H E) cl (fun c d _ H => E c d H) He H (defBody (topS 12)) (b_check_ways (FT d)) := by
  have tk : Takes (cxOf (L2.CX P w) P w K mg base ["ways", "first", "at"] "check_ways" (defScope (topS 12)) f cdv A outer s H E) (fun c d _ H => E c d H) := takes_of rfl rfl rfl rfl
  have hp := passes_of (X := cxOf (L2.CX P w) P w K mg base ["ways", "first", "at"] "check_ways" (defScope (topS 12)) f cdv A outer s H E) rfl
  exact vs_one (vs_for hp rfl bears_wkA wkA_of (vi_r1 (ve_callB call_len cv_len T.z_len boot_len (va_cons (ve_var 0) (va_nil))) T.z_range) (pg_name (i := 2) sc_3.nd rfl (by first | exact Or.inl rfl | exact Or.inr rfl)) (tg_name 2) (vs_one (vs_if (vt_not (vt_tru (vc (TD.d_is_way) hr tk (va_cons (ve_ix (ve_var 0) (ve_var 2)) (va_nil))))) (vs_one (vr T.x_BadWay (room2 hr) rfl tk (va_cons (ve_bin or_add ov_add (ve_var 1) (ve_var 2)) (va_nil)))) (vs_nil))))
theorem ok_4 (T : Tx P w K mg base cl) (TD : TxD P w K mg base cl d) {f : Addr} {cdv : Value} {A : Around} {outer : List PySem.Env} {s : Shared} {H : Hp} {E : XK} {He : Hp} (hr : Room (d + 2) (A.deeper (envOfC "check_place" (defScope (topS 13)) s.heap.objs.size f cdv))) :
    PVs (cxOf (L2.CX P w) P w K mg base ["place", "part"] "check_place" (defScope (topS 13)) f cdv A outer s H E) cl (fun c d _ H => E c d H) He H (defBody (topS 13)) (b_check_place (FT d)) := by
  have tk : Takes (cxOf (L2.CX P w) P w K mg base ["place", "part"] "check_place" (defScope (topS 13)) f cdv A outer s H E) (fun c d _ H => E c d H) := takes_of rfl rfl rfl rfl
  have hp := passes_of (X := cxOf (L2.CX P w) P w K mg base ["place", "part"] "check_place" (defScope (topS 13)) f cdv A outer s H E) rfl
  exact vs_one (vs_for hp rfl bears_wk wk_of (vi_seq (ve_var 0)) (pg_name (i := 1) sc_4.nd rfl (by first | exact Or.inl rfl | exact Or.inr rfl)) (tg_name 1) (vs_one (vs_if (vt_not (vt_chain or_le or_le ov_le ov_le (ve_neg (ve_glob T.c_MOST_PLACE)) (ve_var 1) (ve_glob T.c_MOST_PLACE))) (vs_one (vr T.x_OutOfRange (room2 hr) rfl tk (va_cons (ve_var 1) (va_nil)))) (vs_nil))))
theorem ok_5 (T : Tx P w K mg base cl) (TD : TxD P w K mg base cl d) {f : Addr} {cdv : Value} {A : Around} {outer : List PySem.Env} {s : Shared} {H : Hp} {E : XK} {He : Hp} (hr : Room (d + 2) (A.deeper (envOfC "cross" (defScope (topS 14)) s.heap.objs.size f cdv))) :
    PVs (cxOf (L2.CX P w) P w K mg base ["a", "b"] "cross" (defScope (topS 14)) f cdv A outer s H E) cl (fun c d _ H => E c d H) He H (defBody (topS 14)) (b_cross (FT d)) := by
  have tk : Takes (cxOf (L2.CX P w) P w K mg base ["a", "b"] "cross" (defScope (topS 14)) f cdv A outer s H E) (fun c d _ H => E c d H) := takes_of rfl rfl rfl rfl
  exact vs_one (vs_ret (ve_bin op_sub ov_sub (ve_bin or_mul ov_mul (ve_ix (ve_var 0) (ve_int)) (ve_ix (ve_var 1) (ve_int))) (ve_bin or_mul ov_mul (ve_ix (ve_var 0) (ve_int)) (ve_ix (ve_var 1) (ve_int)))))
theorem ok_6 (T : Tx P w K mg base cl) (TD : TxD P w K mg base cl d) {f : Addr} {cdv : Value} {A : Around} {outer : List PySem.Env} {s : Shared} {H : Hp} {E : XK} {He : Hp} (hr : Room (d + 2) (A.deeper (envOfC "dot" (defScope (topS 15)) s.heap.objs.size f cdv))) :
    PVs (cxOf (L2.CX P w) P w K mg base ["a", "b"] "dot" (defScope (topS 15)) f cdv A outer s H E) cl (fun c d _ H => E c d H) He H (defBody (topS 15)) (b_dot (FT d)) := by
  have tk : Takes (cxOf (L2.CX P w) P w K mg base ["a", "b"] "dot" (defScope (topS 15)) f cdv A outer s H E) (fun c d _ H => E c d H) := takes_of rfl rfl rfl rfl
  exact vs_one (vs_ret (ve_bin or_add ov_add (ve_bin or_mul ov_mul (ve_ix (ve_var 0) (ve_int)) (ve_ix (ve_var 1) (ve_int))) (ve_bin or_mul ov_mul (ve_ix (ve_var 0) (ve_int)) (ve_ix (ve_var 1) (ve_int)))))
theorem ok_7 (T : Tx P w K mg base cl) (TD : TxD P w K mg base cl d) {f : Addr} {cdv : Value} {A : Around} {outer : List PySem.Env} {s : Shared} {H : Hp} {E : XK} {He : Hp} (hr : Room (d + 2) (A.deeper (envOfC "way_between" (defScope (topS 16)) s.heap.objs.size f cdv))) :
    PVs (cxOf (L2.CX P w) P w K mg base ["one", "other"] "way_between" (defScope (topS 16)) f cdv A outer s H E) cl (fun c d _ H => E c d H) He H (defBody (topS 16)) (b_way_between (FT d)) := by
  have tk : Takes (cxOf (L2.CX P w) P w K mg base ["one", "other"] "way_between" (defScope (topS 16)) f cdv A outer s H E) (fun c d _ H => E c d H) := takes_of rfl rfl rfl rfl
  exact vs_one (vs_ret (ve_tup (va_cons (ve_bin op_sub ov_sub (ve_ix (ve_var 1) (ve_int)) (ve_ix (ve_var 0) (ve_int))) (va_cons (ve_bin op_sub ov_sub (ve_ix (ve_var 1) (ve_int)) (ve_ix (ve_var 0) (ve_int))) (va_nil)))))
theorem ok_8 (T : Tx P w K mg base cl) (TD : TxD P w K mg base cl d) {f : Addr} {cdv : Value} {A : Around} {outer : List PySem.Env} {s : Shared} {H : Hp} {E : XK} {He : Hp} (hr : Room (d + 2) (A.deeper (envOfC "word_of" (defScope (topS 18)) s.heap.objs.size f cdv))) :
    PVs (cxOf (L2.CX P w) P w K mg base ["side"] "word_of" (defScope (topS 18)) f cdv A outer s H E) cl (fun c d _ H => E c d H) He H (defBody (topS 18)) (b_word_of_v1 (FT d)) := by
  have tk : Takes (cxOf (L2.CX P w) P w K mg base ["side"] "word_of" (defScope (topS 18)) f cdv A outer s H E) (fun c d _ H => E c d H) := takes_of rfl rfl rfl rfl
  exact vs_cons (vs_if (vt_cmp (or_eq (room64 hr)) ov_eq (ve_var 0) (ve_int)) (vs_one (vs_ret (ve_str))) (vs_nil)) (vs_one (vs_ret (ve_if (vt_cmp op_gt ov_gt (ve_var 0) (ve_int)) (ve_str) (ve_str))))
theorem ok_9 (T : Tx P w K mg base cl) (TD : TxD P w K mg base cl d) {f : Addr} {cdv : Value} {A : Around} {outer : List PySem.Env} {s : Shared} {H : Hp} {E : XK} {He : Hp} (hr : Room (d + 2) (A.deeper (envOfC "off_by" (defScope (topS 19)) s.heap.objs.size f cdv))) :
    PVs (cxOf (L2.CX P w) P w K mg base ["place", "way", "ship", "side"] "off_by" (defScope (topS 19)) f cdv A outer s H E) cl (fun c d _ H => E c d H) He H (defBody (topS 19)) (b_off_by (FT d)) := by
  have tk : Takes (cxOf (L2.CX P w) P w K mg base ["place", "way", "ship", "side"] "off_by" (defScope (topS 19)) f cdv A outer s H E) (fun c d _ H => E c d H) := takes_of rfl rfl rfl rfl
  exact vs_cons (vs_set sc_9.nd (vc (TD.d_cross) hr tk (va_cons (ve_var 1) (va_cons (vc (TD.d_way_between) hr tk (va_cons (ve_var 0) (va_cons (ve_var 2) (va_nil)))) (va_nil))))) (vs_one (vs_ret (ve_tup (va_cons (vc (TD.d_word_of) hr tk (va_cons (ve_var 3) (va_nil))) (va_cons (vc (TD.d_lowest) hr tk (va_cons (ve_bin or_mul ov_mul (ve_var 3) (ve_var 3)) (va_cons (vc (TD.d_dot) hr tk (va_cons (ve_var 1) (va_cons (ve_var 1) (va_nil)))) (va_nil)))) (va_nil))))))
theorem ok_10 (T : Tx P w K mg base cl) (TD : TxD P w K mg base cl d) {f : Addr} {cdv : Value} {A : Around} {outer : List PySem.Env} {s : Shared} {H : Hp} {E : XK} {He : Hp} (hr : Room (d + 2) (A.deeper (envOfC "crossing_of" (defScope (topS 22)) s.heap.objs.size f cdv))) :
    PVs (cxOf (L2.CX P w) P w K mg base ["one", "way", "other", "second", "bottom", "top", "sign", "parts", "at"] "crossing_of" (defScope (topS 22)) f cdv A outer s H E) cl (fun c d _ H => E c d H) He H (defBody (topS 22)) (b_crossing_of (FT d)) := by
  have tk : Takes (cxOf (L2.CX P w) P w K mg base ["one", "way", "other", "second", "bottom", "top", "sign", "parts", "at"] "crossing_of" (defScope (topS 22)) f cdv A outer s H E) (fun c d _ H => E c d H) := takes_of rfl rfl rfl rfl
  exact vs_cons (vs_set sc_10.nd (vc (TD.d_cross) hr tk (va_cons (ve_var 1) (va_cons (ve_var 3) (va_nil))))) (vs_cons (vs_if (vt_cmp (or_eq (room64 hr)) ov_eq (ve_var 4) (ve_int)) (vs_one (vs_ret (ve_non))) (vs_nil)) (vs_cons (vs_set sc_10.nd (vc (TD.d_cross) hr tk (va_cons (vc (TD.d_way_between) hr tk (va_cons (ve_var 0) (va_cons (ve_var 2) (va_nil)))) (va_cons (ve_var 3) (va_nil))))) (vs_cons (vs_set sc_10.nd (ve_if (vt_cmp op_gt ov_gt (ve_var 4) (ve_int)) (ve_int) (ve_neg (ve_int)))) (vs_cons (vs_setLc (own := [(("at" : Str), 8)]) rfl sc_10.nd (vi_seq (ve_tup (va_cons (ve_int) (va_cons (ve_int) (va_nil))))) wk_of (blk_of (by rfl)) (tg_name 8) (mem_tn rfl) (fun _ _ _ _ _ => pg_name (i := 8) sc_10.nd rfl (by first | exact Or.inl rfl | exact Or.inr rfl)) (fun _ _ _ _ _ => vts_nil) (fun _ _ _ _ _ => vc (TD.d_lowest) hr takes_none5 (va_cons (ve_bin or_mul ov_mul (ve_var 6) (ve_bin or_add ov_add (ve_bin or_mul ov_mul (ve_ix (ve_var 0) (ve_var 8)) (ve_var 4)) (ve_bin or_mul ov_mul (ve_ix (ve_var 1) (ve_var 8)) (ve_var 5)))) (va_cons (ve_callB call_abs cv_abs T.z_abs boot_abs (va_cons (ve_var 4) (va_nil))) (va_nil))))) (vs_one (vs_ret (ve_tup (va_cons (ve_ix (ve_var 7) (ve_int)) (va_cons (ve_ix (ve_var 7) (ve_int)) (va_nil))))))))))
theorem ok_11 (T : Tx P w K mg base cl) (TD : TxD P w K mg base cl d) {f : Addr} {cdv : Value} {A : Around} {outer : List PySem.Env} {s : Shared} {H : Hp} {E : XK} {He : Hp} (hr : Room (d + 2) (A.deeper (envOfC "is_seen_so" (defScope (topS 23)) s.heap.objs.size f cdv))) :
    PVs (cxOf (L2.CX P w) P w K mg base ["place", "light", "way", "size", "ahead", "at"] "is_seen_so" (defScope (topS 23)) f cdv A outer s H E) cl (fun c d _ H => E c d H) He H (defBody (topS 23)) (b_is_seen_so (FT d)) := by
  have tk : Takes (cxOf (L2.CX P w) P w K mg base ["place", "light", "way", "size", "ahead", "at"] "is_seen_so" (defScope (topS 23)) f cdv A outer s H E) (fun c d _ H => E c d H) := takes_of rfl rfl rfl rfl
  have hp := passes_of (X := cxOf (L2.CX P w) P w K mg base ["place", "light", "way", "size", "ahead", "at"] "is_seen_so" (defScope (topS 23)) f cdv A outer s H E) rfl
  exact vs_cons (vs_set sc_11.nd (ve_bin or_mul ov_mul (ve_ix (ve_ix (ve_var 0) (ve_int)) (ve_int)) (ve_ix (ve_ix (ve_var 0) (ve_int)) (ve_int)))) (vs_cons (vs_set sc_11.nd (ve_int)) (vs_cons (vs_for hp rfl bears_wk wk_of (vi_seq (ve_tup (va_cons (ve_int) (va_cons (ve_int) (va_nil))))) (pg_name (i := 5) sc_11.nd rfl (by first | exact Or.inl rfl | exact Or.inr rfl)) (tg_name 5) (vs_one (vs_aug iop_add ov_iadd sc_11.nd (ve_bin or_mul ov_mul (ve_ix (ve_var 2) (ve_var 5)) (ve_bin op_sub ov_sub (ve_bin or_mul ov_mul (ve_ix (ve_var 1) (ve_var 5)) (ve_var 3)) (ve_bin or_mul ov_mul (ve_ix (ve_ix (ve_var 0) (ve_var 5)) (ve_int)) (ve_bin op_fdivS ov_div (ve_var 3) (ve_ix (ve_ix (ve_var 0) (ve_var 5)) (ve_int))))))))) (vs_one (vs_ret (ve_cmp op_gt ov_gt (ve_var 4) (ve_int))))))
theorem ok_12 (T : Tx P w K mg base cl) (TD : TxD P w K mg base cl d) {f : Addr} {cdv : Value} {A : Around} {outer : List PySem.Env} {s : Shared} {H : Hp} {E : XK} {He : Hp} (hr : Room (d + 2) (A.deeper (envOfC "fix_by" (defScope (topS 24)) s.heap.objs.size f cdv))) :
    PVs (cxOf (L2.CX P w) P w K mg base ["one", "way", "other", "second", "place"] "fix_by" (defScope (topS 24)) f cdv A outer s H E) cl (fun c d _ H => E c d H) He H (defBody (topS 24)) (b_fix_by (FT d)) := by
  have tk : Takes (cxOf (L2.CX P w) P w K mg base ["one", "way", "other", "second", "place"] "fix_by" (defScope (topS 24)) f cdv A outer s H E) (fun c d _ H => E c d H) := takes_of rfl rfl rfl rfl
  exact vs_cons (vs_expr (vc (TD.d_check_ways) hr tk (va_cons (ve_lst (va_cons (ve_var 1) (va_cons (ve_var 3) (va_nil)))) (va_cons (ve_int) (va_nil))))) (vs_cons (vs_expr (vc (TD.d_check_place) hr tk (va_cons (ve_var 0) (va_nil)))) (vs_cons (vs_expr (vc (TD.d_check_place) hr tk (va_cons (ve_var 2) (va_nil)))) (vs_cons (vs_set sc_12.nd (vc (TD.d_crossing_of) hr tk (va_cons (ve_var 0) (va_cons (ve_var 1) (va_cons (ve_var 2) (va_cons (ve_var 3) (va_nil))))))) (vs_cons (vs_if (PW.pt (vw_or (vt_cmp or_is ov_is (ve_var 4) (ve_non)) (vw_or (vt_not (vt_tru (vc (TD.d_is_seen_so) hr tk (va_cons (ve_var 4) (va_cons (ve_var 0) (va_cons (ve_var 1) (va_nil))))))) (vw_or1 (vt_not (vt_tru (vc (TD.d_is_seen_so) hr tk (va_cons (ve_var 4) (va_cons (ve_var 2) (va_cons (ve_var 3) (va_nil))))))))))) (vs_one (vs_ret (ve_non))) (vs_nil)) (vs_one (vs_ret (ve_var 4)))))))
theorem ok_13 (T : Tx P w K mg base cl) (TD : TxD P w K mg base cl d) {f : Addr} {cdv : Value} {A : Around} {outer : List PySem.Env} {s : Shared} {H : Hp} {E : XK} {He : Hp} (hr : Room (d + 2) (A.deeper (envOfC "check_sights" (defScope (topS 25)) s.heap.objs.size f cdv))) :
    PVs (cxOf (L2.CX P w) P w K mg base ["sights", "at", "place", "_"] "check_sights" (defScope (topS 25)) f cdv A outer s H E) cl (fun c d _ H => E c d H) He H (defBody (topS 25)) (b_check_sights (FT d)) := by
  have tk : Takes (cxOf (L2.CX P w) P w K mg base ["sights", "at", "place", "_"] "check_sights" (defScope (topS 25)) f cdv A outer s H E) (fun c d _ H => E c d H) := takes_of rfl rfl rfl rfl
  have hp := passes_of (X := cxOf (L2.CX P w) P w K mg base ["sights", "at", "place", "_"] "check_sights" (defScope (topS 25)) f cdv A outer s H E) rfl
  exact vs_cons (vs_for hp rfl bears_wkA wkA_of (vi_r1 (ve_callB call_len cv_len T.z_len boot_len (va_cons (ve_var 0) (va_nil))) T.z_range) (pg_name (i := 1) sc_13.nd rfl (by first | exact Or.inl rfl | exact Or.inr rfl)) (tg_name 1) (vs_one (vs_expr (vc (TD.d_check_ways) hr tk (va_cons (ve_lst (va_cons (ve_ix (ve_ix (ve_var 0) (ve_var 1)) (ve_int)) (va_nil))) (va_cons (ve_var 1) (va_nil))))))) (vs_cons (vs_for hp rfl bears_wk wk_of (vi_seq (ve_var 0)) (pg_tup rfl (pgs_cons (pg_name (i := 2) sc_13.nd rfl (by first | exact Or.inl rfl | exact Or.inr rfl)) (pgs_cons (pg_name (i := 3) sc_13.nd rfl (by first | exact Or.inl rfl | exact Or.inr rfl)) (pgs_nil)))) (tg_tup (tgs_cons (tg_name 2) (tgs_cons (tg_name 3) (tgs_nil)))) (vs_one (vs_expr (vc (TD.d_check_place) hr tk (va_cons (ve_var 2) (va_nil)))))) (vs_one (vs_if (vt_cmp (or_ne (room64 hr)) ov_ne (ve_callB call_len cv_len T.z_len boot_len (va_cons (ve_var 0) (va_nil))) (ve_glob T.c_SIGHTS)) (vs_one (vr T.x_Unequal (room2 hr) rfl tk (va_cons (ve_callB call_len cv_len T.z_len boot_len (va_cons (ve_var 0) (va_nil))) (va_nil)))) (vs_nil))))
theorem ok_14 (T : Tx P w K mg base cl) (TD : TxD P w K mg base cl d) {f : Addr} {cdv : Value} {A : Around} {outer : List PySem.Env} {s : Shared} {H : Hp} {E : XK} {He : Hp} (hr : Room (d + 2) (A.deeper (envOfC "corners_of" (defScope (topS 26)) s.heap.objs.size f cdv))) :
    PVs (cxOf (L2.CX P w) P w K mg base ["sights", "found", "one", "other"] "corners_of" (defScope (topS 26)) f cdv A outer s H E) cl (fun c d _ H => E c d H) He H (defBody (topS 26)) (b_corners_of (FT d)) := by
  have tk : Takes (cxOf (L2.CX P w) P w K mg base ["sights", "found", "one", "other"] "corners_of" (defScope (topS 26)) f cdv A outer s H E) (fun c d _ H => E c d H) := takes_of rfl rfl rfl rfl
  have hp := passes_of (X := cxOf (L2.CX P w) P w K mg base ["sights", "found", "one", "other"] "corners_of" (defScope (topS 26)) f cdv A outer s H E) rfl
  exact vs_cons (vs_own sc_14.nd (vo_lst (va_nil))) (vs_cons (vs_for hp rfl bears_wk wk_of (vi_seq (ve_tup (va_cons (ve_tup (va_cons (ve_int) (va_cons (ve_int) (va_nil)))) (va_cons (ve_tup (va_cons (ve_int) (va_cons (ve_int) (va_nil)))) (va_cons (ve_tup (va_cons (ve_int) (va_cons (ve_int) (va_nil)))) (va_nil)))))) (pg_tup rfl (pgs_cons (pg_name (i := 2) sc_14.nd rfl (by first | exact Or.inl rfl | exact Or.inr rfl)) (pgs_cons (pg_name (i := 3) sc_14.nd rfl (by first | exact Or.inl rfl | exact Or.inr rfl)) (pgs_nil)))) (tg_tup (tgs_cons (tg_name 2) (tgs_cons (tg_name 3) (tgs_nil)))) (vs_one (vs_met PySem.F.slot_list_append PySem.F.type_list_append mt_append met_app (va_cons (vc (TD.d_crossing_of) hr tk (va_cons (ve_ix (ve_ix (ve_var 0) (ve_var 2)) (ve_int)) (va_cons (ve_ix (ve_ix (ve_var 0) (ve_var 2)) (ve_int)) (va_cons (ve_ix (ve_ix (ve_var 0) (ve_var 3)) (ve_int)) (va_cons (ve_ix (ve_ix (ve_var 0) (ve_var 3)) (ve_int)) (va_nil)))))) (va_nil))))) (vs_one (vs_ret (ve_if (vt_cmp (or_in (room65 hr)) ov_in (ve_non) (ve_var 1)) (ve_non) (ve_var 1)))))
theorem ok_15 (T : Tx P w K mg base cl) (TD : TxD P w K mg base cl d) {f : Addr} {cdv : Value} {A : Around} {outer : List PySem.Env} {s : Shared} {H : Hp} {E : XK} {He : Hp} (hr : Room (d + 2) (A.deeper (envOfC "twice_area" (defScope (topS 27)) s.heap.objs.size f cdv))) :
    PVs (cxOf (L2.CX P w) P w K mg base ["corners", "size", "corner", "told", "x", "y"] "twice_area" (defScope (topS 27)) f cdv A outer s H E) cl (fun c d _ H => E c d H) He H (defBody (topS 27)) (b_twice_area (FT d)) := by
  have tk : Takes (cxOf (L2.CX P w) P w K mg base ["corners", "size", "corner", "told", "x", "y"] "twice_area" (defScope (topS 27)) f cdv A outer s H E) (fun c d _ H => E c d H) := takes_of rfl rfl rfl rfl
  have hp := passes_of (X := cxOf (L2.CX P w) P w K mg base ["corners", "size", "corner", "told", "x", "y"] "twice_area" (defScope (topS 27)) f cdv A outer s H E) rfl
  exact vs_cons (vs_set sc_15.nd (ve_int)) (vs_cons (vs_for hp rfl bears_wk wk_of (vi_seq (ve_var 0)) (pg_name (i := 2) sc_15.nd rfl (by first | exact Or.inl rfl | exact Or.inr rfl)) (tg_name 2) (vs_one (vs_aug iop_mulS ov_imul sc_15.nd (ve_bin or_mul ov_mul (ve_ix (ve_ix (ve_var 2) (ve_int)) (ve_int)) (ve_ix (ve_ix (ve_var 2) (ve_int)) (ve_int)))))) (vs_cons (vs_setLc (own := [(("x" : Str), 4), (("y" : Str), 5)]) rfl sc_15.nd (vi_seq (ve_var 0)) wk_of (blk_of (by rfl)) (tg_tup (tgs_cons (tg_name 4) (tgs_cons (tg_name 5) (tgs_nil)))) (tin_t (tin_cons (mem_tn rfl) (tin_cons (mem_tn rfl) (tin_nil)))) (fun _ _ _ _ _ => pg_tup rfl (pgs_cons (pg_name (i := 4) sc_15.nd rfl (by first | exact Or.inl rfl | exact Or.inr rfl)) (pgs_cons (pg_name (i := 5) sc_15.nd rfl (by first | exact Or.inl rfl | exact Or.inr rfl)) (pgs_nil)))) (fun _ _ _ _ _ => vts_nil) (fun _ _ _ _ _ => ve_tup (va_cons (ve_bin or_mul ov_mul (ve_ix (ve_var 4) (ve_int)) (ve_bin op_fdivS ov_div (ve_var 1) (ve_ix (ve_var 4) (ve_int)))) (va_cons (ve_bin or_mul ov_mul (ve_ix (ve_var 5) (ve_int)) (ve_bin op_fdivS ov_div (ve_var 1) (ve_ix (ve_var 5) (ve_int)))) (va_nil))))) (vs_one (vs_ret (vc (TD.d_lowest) hr tk (va_cons (vc (TD.d_cross) hr tk (va_cons (vc (TD.d_way_between) hr tk (va_cons (ve_ix (ve_var 3) (ve_int)) (va_cons (ve_ix (ve_var 3) (ve_int)) (va_nil)))) (va_cons (vc (TD.d_way_between) hr tk (va_cons (ve_ix (ve_var 3) (ve_int)) (va_cons (ve_ix (ve_var 3) (ve_int)) (va_nil)))) (va_nil)))) (va_cons (ve_bin or_mul ov_mul (ve_var 1) (ve_var 1)) (va_nil))))))))
theorem ok_16 (T : Tx P w K mg base cl) (TD : TxD P w K mg base cl d) {f : Addr} {cdv : Value} {A : Around} {outer : List PySem.Env} {s : Shared} {H : Hp} {E : XK} {He : Hp} (hr : Room (d + 2) (A.deeper (envOfC "hat_of" (defScope (topS 28)) s.heap.objs.size f cdv))) :
    PVs (cxOf (L2.CX P w) P w K mg base ["sights", "corners", "area"] "hat_of" (defScope (topS 28)) f cdv A outer s H E) cl (fun c d _ H => E c d H) He H (defBody (topS 28)) (b_hat_of (FT d)) := by
  have tk : Takes (cxOf (L2.CX P w) P w K mg base ["sights", "corners", "area"] "hat_of" (defScope (topS 28)) f cdv A outer s H E) (fun c d _ H => E c d H) := takes_of rfl rfl rfl rfl
  exact vs_cons (vs_expr (vc (TD.d_check_sights) hr tk (va_cons (ve_var 0) (va_nil)))) (vs_cons (vs_set sc_16.nd (vc (TD.d_corners_of) hr tk (va_cons (ve_var 0) (va_nil)))) (vs_cons (vs_if (vt_cmp or_is ov_is (ve_var 1) (ve_non)) (vs_one (vs_ret (ve_non))) (vs_nil)) (vs_cons (vs_set sc_16.nd (vc (TD.d_twice_area) hr tk (va_cons (ve_var 1) (va_nil)))) (vs_one (vs_ret (ve_tup (va_cons (ve_tup (va_cons (ve_callB call_abs cv_abs T.z_abs boot_abs (va_cons (ve_ix (ve_var 2) (ve_int)) (va_nil))) (va_cons (ve_ix (ve_var 2) (ve_int)) (va_nil)))) (va_cons (ve_var 1) (va_nil)))))))))
theorem ok_17 (T : Tx P w K mg base cl) (TD : TxD P w K mg base cl d) {f : Addr} {cdv : Value} {A : Around} {outer : List PySem.Env} {s : Shared} {H : Hp} {E : XK} {He : Hp} (hr : Room (d + 2) (A.deeper (envOfC "inside_hat" (defScope (topS 29)) s.heap.objs.size f cdv))) :
    PVs (cxOf (L2.CX P w) P w K mg base ["sights", "ship", "corners", "point", "signs", "at"] "inside_hat" (defScope (topS 29)) f cdv A outer s H E) cl (fun c d _ H => E c d H) He H (defBody (topS 29)) (b_inside_hat (FT d)) := by
  have tk : Takes (cxOf (L2.CX P w) P w K mg base ["sights", "ship", "corners", "point", "signs", "at"] "inside_hat" (defScope (topS 29)) f cdv A outer s H E) (fun c d _ H => E c d H) := takes_of rfl rfl rfl rfl
  exact vs_cons (vs_expr (vc (TD.d_check_sights) hr tk (va_cons (ve_var 0) (va_nil)))) (vs_cons (vs_expr (vc (TD.d_check_place) hr tk (va_cons (ve_var 1) (va_nil)))) (vs_cons (vs_set sc_17.nd (vc (TD.d_corners_of) hr tk (va_cons (ve_var 0) (va_nil)))) (vs_cons (vs_if (vt_cmp or_is ov_is (ve_var 2) (ve_non)) (vs_one (vs_ret (ve_bl))) (vs_nil)) (vs_cons (vs_set sc_17.nd (ve_tup (va_cons (ve_tup (va_cons (ve_ix (ve_var 1) (ve_int)) (va_cons (ve_int) (va_nil)))) (va_cons (ve_tup (va_cons (ve_ix (ve_var 1) (ve_int)) (va_cons (ve_int) (va_nil)))) (va_nil))))) (vs_cons (vs_setLc (own := [(("at" : Str), 5)]) rfl sc_17.nd (vi_r1 (ve_glob T.c_SIGHTS) T.z_range) wkA_of (blk_of (by rfl)) (tg_name 5) (mem_tn rfl) (fun _ _ _ _ _ => pg_name (i := 5) sc_17.nd rfl (by first | exact Or.inl rfl | exact Or.inr rfl)) (fun _ _ _ _ _ => vts_nil) (fun _ _ _ _ _ => ve_ix (vc (TD.d_twice_area) hr takes_none5 (va_cons (ve_lst (va_cons (ve_ix (ve_var 2) (ve_var 5)) (va_cons (ve_ix (ve_var 2) (ve_bin op_mod ov_mod (ve_bin or_add ov_add (ve_var 5) (ve_int)) (ve_glob T.c_SIGHTS))) (va_cons (ve_var 3) (va_nil))))) (va_nil))) (ve_int))) (vs_cons (vs_if (vt_cmp (or_eq (room64 hr)) ov_eq (ve_ix (vc (TD.d_twice_area) hr tk (va_cons (ve_var 2) (va_nil))) (ve_int)) (ve_int)) (vs_one (vs_ret (ve_cmp (or_eq (room64 hr)) ov_eq (ve_var 3) (ve_ix (ve_var 2) (ve_int))))) (vs_nil)) (vs_one (vs_ret (ve_or (ve_cmp op_ge ov_ge (ve_callB (cr_min2 rfl) cv_min T.z_min boot_min (va_cons (ve_var 4) (va_nil))) (ve_int)) (ve_one (ve_cmp or_le ov_le (ve_callB (cr_max2 rfl) cv_max T.z_max boot_max (va_cons (ve_var 4) (va_nil))) (ve_int))))))))))))
theorem ok_18 (T : Tx P w K mg base cl) (TD : TxD P w K mg base cl d) {f : Addr} {cdv : Value} {A : Around} {outer : List PySem.Env} {s : Shared} {H : Hp} {E : XK} {He : Hp} (hr : Room (d + 2) (A.deeper (envOfC "sight_error" (defScope (topS 30)) s.heap.objs.size f cdv))) :
    PVs (cxOf (L2.CX P w) P w K mg base ["place", "way", "ship"] "sight_error" (defScope (topS 30)) f cdv A outer s H E) cl (fun c d _ H => E c d H) He H (defBody (topS 30)) (b_sight_error (FT d)) := by
  have tk : Takes (cxOf (L2.CX P w) P w K mg base ["place", "way", "ship"] "sight_error" (defScope (topS 30)) f cdv A outer s H E) (fun c d _ H => E c d H) := takes_of rfl rfl rfl rfl
  exact vs_cons (vs_expr (vc (TD.d_check_ways) hr tk (va_cons (ve_lst (va_cons (ve_var 1) (va_nil))) (va_cons (ve_int) (va_nil))))) (vs_cons (vs_expr (vc (TD.d_check_place) hr tk (va_cons (ve_var 0) (va_nil)))) (vs_cons (vs_expr (vc (TD.d_check_place) hr tk (va_cons (ve_var 2) (va_nil)))) (vs_one (vs_ret (vc (TD.d_off_by) hr tk (va_cons (ve_var 0) (va_cons (ve_var 1) (va_cons (ve_var 2) (va_nil)))))))))
theorem ok_19 (T : Tx P w K mg base cl) (TD : TxD P w K mg base cl d) {f : Addr} {cdv : Value} {A : Around} {outer : List PySem.Env} {s : Shared} {H : Hp} {E : XK} {He : Hp} (hr : Room (d + 2) (A.deeper (envOfC "_law_cell" (defScope (topS 32)) s.heap.objs.size f cdv))) :
    PVs (cxOf (L2.CX P w) P w K mg base ["script", "k"] "_law_cell" (defScope (topS 32)) f cdv A outer s H E) cl (fun c d _ H => E c d H) He H (defBody (topS 32)) (b__law_cell (FT d)) := by
  have tk : Takes (cxOf (L2.CX P w) P w K mg base ["script", "k"] "_law_cell" (defScope (topS 32)) f cdv A outer s H E) (fun c d _ H => E c d H) := takes_of rfl rfl rfl rfl
  exact vs_cons (vs_if (vt_cmp (or_lt (room0 hr)) ov_lt (ve_var 1) (ve_callB call_len cv_len T.z_len boot_len (va_cons (ve_var 0) (va_nil)))) (vs_one (vs_ret (ve_ix (ve_var 0) (ve_var 1)))) (vs_nil)) (vs_one (vs_ret (ve_int)))
theorem ok_20 (T : Tx P w K mg base cl) (TD : TxD P w K mg base cl d) {f : Addr} {cdv : Value} {A : Around} {outer : List PySem.Env} {s : Shared} {H : Hp} {E : XK} {He : Hp} (hr : Room (d + 2) (A.deeper (envOfC "_law_draw" (defScope (topS 33)) s.heap.objs.size f cdv))) :
    PVs (cxOf (L2.CX P w) P w K mg base ["cell", "limits", "row", "rest", "great", "k", "mixed"] "_law_draw" (defScope (topS 33)) f cdv A outer s H E) cl (fun c d _ H => E c d H) He H (defBody (topS 33)) (b__law_draw (FT d)) := by
  have tk : Takes (cxOf (L2.CX P w) P w K mg base ["cell", "limits", "row", "rest", "great", "k", "mixed"] "_law_draw" (defScope (topS 33)) f cdv A outer s H E) (fun c d _ H => E c d H) := takes_of rfl rfl rfl rfl
  have hp := passes_of (X := cxOf (L2.CX P w) P w K mg base ["cell", "limits", "row", "rest", "great", "k", "mixed"] "_law_draw" (defScope (topS 33)) f cdv A outer s H E) rfl
  exact vs_cons (vs_own sc_20.nd (vo_lst (va_nil))) (vs_cons (vs_set sc_20.nd (ve_callB call_abs cv_abs T.z_abs boot_abs (va_cons (ve_var 0) (va_nil)))) (vs_cons (vs_set sc_20.nd (ve_cmp op_ge ov_ge (ve_var 3) (ve_int))) (vs_cons (vs_for hp rfl bears_wkA wkA_of (vi_r1 (ve_callB call_len cv_len T.z_len boot_len (va_cons (ve_var 1) (va_nil))) T.z_range) (pg_name (i := 5) sc_20.nd rfl (by first | exact Or.inl rfl | exact Or.inr rfl)) (tg_name 5) (vs_one (vs_if (PW.pt (vw_and (vt_tru (ve_var 4)) (vw_and1 (vt_cmp op_ge ov_ge (ve_var 3) (ve_ix (ve_var 1) (ve_var 5)))))) (vs_cons (vs_met PySem.F.slot_list_append PySem.F.type_list_append mt_append met_app (va_cons (ve_bin op_mod ov_mod (ve_callTy call_int1 cv_int T.z_int boot_int (va_cons (ve_var 3) (va_nil))) (ve_ix (ve_var 1) (ve_var 5))) (va_nil))) (vs_one (vs_set sc_20.nd (ve_bin op_fdivS ov_div (ve_var 3) (ve_ix (ve_var 1) (ve_var 5)))))) (vs_cons (vs_set sc_20.nd (ve_bin op_mod ov_mod (ve_callTy call_int1 cv_int T.z_int boot_int (va_cons (ve_bin or_add ov_add (ve_bin or_mul ov_mul (ve_callB call_abs cv_abs T.z_abs boot_abs (va_cons (ve_var 0) (va_nil))) (ve_int)) (ve_bin or_mul ov_mul (ve_bin or_add ov_add (ve_var 5) (ve_int)) (ve_int))) (va_nil))) (ve_int))) (vs_cons (vs_set sc_20.nd (ve_bin op_mod ov_mod (ve_callTy call_int1 cv_int T.z_int boot_int (va_cons (ve_bin or_add ov_add (ve_bin or_mul ov_mul (ve_var 6) (ve_int)) (ve_bin or_mul ov_mul (ve_bin or_add ov_add (ve_var 5) (ve_int)) (ve_int))) (va_nil))) (ve_int))) (vs_one (vs_met PySem.F.slot_list_append PySem.F.type_list_append mt_append met_app (va_cons (ve_bin op_mod ov_mod (ve_callTy call_int1 cv_int T.z_int boot_int (va_cons (ve_var 6) (va_nil))) (ve_ix (ve_var 1) (ve_var 5))) (va_nil))))))))) (vs_one (vs_ret (ve_var 2))))))
theorem ok_21 (T : Tx P w K mg base cl) (TD : TxD P w K mg base cl d) {f : Addr} {cdv : Value} {A : Around} {outer : List PySem.Env} {s : Shared} {H : Hp} {E : XK} {He : Hp} (hr : Room (d + 2) (A.deeper (envOfC "_law_way" (defScope (topS 34)) s.heap.objs.size f cdv))) :
    PVs (cxOf (L2.CX P w) P w K mg base ["cell", "wide", "d", "way"] "_law_way" (defScope (topS 34)) f cdv A outer s H E) cl (fun c d _ H => E c d H) He H (defBody (topS 34)) (b__law_way (FT d)) := by
  have tk : Takes (cxOf (L2.CX P w) P w K mg base ["cell", "wide", "d", "way"] "_law_way" (defScope (topS 34)) f cdv A outer s H E) (fun c d _ H => E c d H) := takes_of rfl rfl rfl rfl
  exact vs_cons (vs_set sc_21.nd (vc (TD.d__law_draw) hr tk (va_cons (ve_var 0) (va_cons (ve_lst (va_cons (ve_bin or_add ov_add (ve_bin or_mul ov_mul (ve_int) (ve_var 1)) (ve_int)) (va_cons (ve_bin or_add ov_add (ve_bin or_mul ov_mul (ve_int) (ve_var 1)) (ve_int)) (va_cons (ve_int) (va_nil))))) (va_nil))))) (vs_cons (vs_set sc_21.nd (ve_tup (va_cons (ve_bin op_sub ov_sub (ve_ix (ve_var 2) (ve_int)) (ve_var 1)) (va_cons (ve_bin op_sub ov_sub (ve_ix (ve_var 2) (ve_int)) (ve_var 1)) (va_nil))))) (vs_cons (vs_if (vt_cmp (or_eq (room64 hr)) ov_eq (ve_var 3) (ve_tup (va_cons (ve_int) (va_cons (ve_int) (va_nil))))) (vs_one (vs_ret (ve_ix (ve_lst (va_cons (ve_tup (va_cons (ve_int) (va_cons (ve_int) (va_nil)))) (va_cons (ve_tup (va_cons (ve_int) (va_cons (ve_int) (va_nil)))) (va_cons (ve_tup (va_cons (ve_int) (va_cons (ve_neg (ve_int)) (va_nil)))) (va_cons (ve_tup (va_cons (ve_neg (ve_int)) (va_cons (ve_int) (va_nil)))) (va_nil)))))) (ve_ix (ve_var 2) (ve_int))))) (vs_nil)) (vs_one (vs_ret (ve_var 3)))))
theorem ok_22 (T : Tx P w K mg base cl) (TD : TxD P w K mg base cl d) {f : Addr} {cdv : Value} {A : Around} {outer : List PySem.Env} {s : Shared} {H : Hp} {E : XK} {He : Hp} (hr : Room (d + 2) (A.deeper (envOfC "_law_turn_of" (defScope (topS 35)) s.heap.objs.size f cdv))) :
    PVs (cxOf (L2.CX P w) P w K mg base ["a", "b"] "_law_turn_of" (defScope (topS 35)) f cdv A outer s H E) cl (fun c d _ H => E c d H) He H (defBody (topS 35)) (b__law_turn_of (FT d)) := by
  have tk : Takes (cxOf (L2.CX P w) P w K mg base ["a", "b"] "_law_turn_of" (defScope (topS 35)) f cdv A outer s H E) (fun c d _ H => E c d H) := takes_of rfl rfl rfl rfl
  exact vs_one (vs_ret (ve_bin op_sub ov_sub (ve_bin or_mul ov_mul (ve_ix (ve_var 0) (ve_int)) (ve_ix (ve_var 1) (ve_int))) (ve_bin or_mul ov_mul (ve_ix (ve_var 0) (ve_int)) (ve_ix (ve_var 1) (ve_int)))))
theorem ok_23 (T : Tx P w K mg base cl) (TD : TxD P w K mg base cl d) {f : Addr} {cdv : Value} {A : Around} {outer : List PySem.Env} {s : Shared} {H : Hp} {E : XK} {He : Hp} (hr : Room (d + 2) (A.deeper (envOfC "_law_ship" (defScope (topS 36)) s.heap.objs.size f cdv))) :
    PVs (cxOf (L2.CX P w) P w K mg base ["cell", "wide", "d"] "_law_ship" (defScope (topS 36)) f cdv A outer s H E) cl (fun c d _ H => E c d H) He H (defBody (topS 36)) (b__law_ship (FT d)) := by
  have tk : Takes (cxOf (L2.CX P w) P w K mg base ["cell", "wide", "d"] "_law_ship" (defScope (topS 36)) f cdv A outer s H E) (fun c d _ H => E c d H) := takes_of rfl rfl rfl rfl
  exact vs_cons (vs_set sc_23.nd (vc (TD.d__law_draw) hr tk (va_cons (ve_var 0) (va_cons (ve_lst (va_cons (ve_bin or_add ov_add (ve_bin or_mul ov_mul (ve_int) (ve_var 1)) (ve_int)) (va_cons (ve_bin or_add ov_add (ve_bin or_mul ov_mul (ve_int) (ve_var 1)) (ve_int)) (va_nil)))) (va_nil))))) (vs_one (vs_ret (ve_tup (va_cons (ve_bin op_sub ov_sub (ve_ix (ve_var 2) (ve_int)) (ve_var 1)) (va_cons (ve_bin op_sub ov_sub (ve_ix (ve_var 2) (ve_int)) (ve_var 1)) (va_nil))))))
theorem ok_24 (T : Tx P w K mg base cl) (TD : TxD P w K mg base cl d) {f : Addr} {cdv : Value} {A : Around} {outer : List PySem.Env} {s : Shared} {H : Hp} {E : XK} {He : Hp} (hr : Room (d + 2) (A.deeper (envOfC "_law_lowest" (defScope (topS 37)) s.heap.objs.size f cdv))) :
    PVs (cxOf (L2.CX P w) P w K mg base ["top", "bottom", "a", "b", "k", "rest"] "_law_lowest" (defScope (topS 37)) f cdv A outer s H E) cl (fun c d _ H => E c d H) He H (defBody (topS 37)) (b__law_lowest_v0 (FT d)) := by
  have tk : Takes (cxOf (L2.CX P w) P w K mg base ["top", "bottom", "a", "b", "k", "rest"] "_law_lowest" (defScope (topS 37)) f cdv A outer s H E) (fun c d _ H => E c d H) := takes_of rfl rfl rfl rfl
  have hp := passes_of (X := cxOf (L2.CX P w) P w K mg base ["top", "bottom", "a", "b", "k", "rest"] "_law_lowest" (defScope (topS 37)) f cdv A outer s H E) rfl
  exact vs_cons (vs_set sc_24.nd (ve_callB call_abs cv_abs T.z_abs boot_abs (va_cons (ve_var 0) (va_nil)))) (vs_cons (vs_set sc_24.nd (ve_callB call_abs cv_abs T.z_abs boot_abs (va_cons (ve_var 1) (va_nil)))) (vs_cons (vs_for hp rfl bears_wkA wkA_of (vi_r1 (ve_int) T.z_range) (pg_name (i := 4) sc_24.nd rfl (by first | exact Or.inl rfl | exact Or.inr rfl)) (tg_name 4) (vs_cons (vs_if (vt_cmp (or_eq (room64 hr)) ov_eq (ve_var 3) (ve_int)) (vs_one (vs_break)) (vs_nil)) (vs_cons (vs_set sc_24.nd (ve_bin op_mod ov_mod (ve_callTy call_int1 cv_int T.z_int boot_int (va_cons (ve_var 2) (va_nil))) (ve_var 3))) (vs_cons (vs_set sc_24.nd (ve_var 3)) (vs_one (vs_set sc_24.nd (ve_var 5))))))) (vs_cons (vs_if (vt_cmp (or_lt (room0 hr)) ov_lt (ve_var 1) (ve_int)) (vs_one (vs_set sc_24.nd (ve_neg (ve_var 2)))) (vs_nil)) (vs_one (vs_ret (ve_tup (va_cons (ve_bin op_fdivS ov_div (ve_var 0) (ve_var 2)) (va_cons (ve_bin op_fdivS ov_div (ve_var 1) (ve_var 2)) (va_nil)))))))))
theorem ok_25 (T : Tx P w K mg base cl) (TD : TxD P w K mg base cl d) {f : Addr} {cdv : Value} {A : Around} {outer : List PySem.Env} {s : Shared} {H : Hp} {E : XK} {He : Hp} (hr : Room (d + 2) (A.deeper (envOfC "_law_told" (defScope (topS 38)) s.heap.objs.size f cdv))) :
    PVs (cxOf (L2.CX P w) P w K mg base ["way", "a", "b", "c", "d", "e"] "_law_told" (defScope (topS 38)) f cdv A outer s H E) cl (fun c d _ H => E c d H) He H (defBody (topS 38)) (b__law_told_v16 (FT d)) := by
  have tk : Takes (cxOf (L2.CX P w) P w K mg base ["way", "a", "b", "c", "d", "e"] "_law_told" (defScope (topS 38)) f cdv A outer s H E) (fun c d _ H => E c d H) := takes_of rfl rfl rfl rfl
  have hp := passes_of (X := cxOf (L2.CX P w) P w K mg base ["way", "a", "b", "c", "d", "e"] "_law_told" (defScope (topS 38)) f cdv A outer s H E) rfl
  exact vs_one (vs_tr tk (fun W' pn' xe' tk' hp' => vs_cons (vs_if (vt_cmp (or_eq (room64 hr)) ov_eq (ve_var 0) (ve_int)) (vs_one (vs_ret (ve_tup (va_cons (ve_str) (va_cons (vc (TD.d_fix_by) hr tk' (va_cons (ve_var 1) (va_cons (ve_var 2) (va_cons (ve_var 3) (va_cons (ve_var 4) (va_nil)))))) (va_nil)))))) (vs_nil)) (vs_cons (vs_if (vt_cmp (or_eq (room64 hr)) ov_eq (ve_var 0) (ve_int)) (vs_one (vs_ret (ve_tup (va_cons (ve_str) (va_cons (vc (TD.d_hat_of) hr tk' (va_cons (ve_var 1) (va_nil))) (va_nil)))))) (vs_nil)) (vs_cons (vs_if (vt_cmp (or_eq (room64 hr)) ov_eq (ve_var 0) (ve_int)) (vs_one (vs_ret (ve_tup (va_cons (ve_str) (va_cons (vc (TD.d_inside_hat) hr tk' (va_cons (ve_var 1) (va_cons (ve_var 2) (va_nil)))) (va_nil)))))) (vs_nil)) (vs_one (vs_ret (ve_tup (va_cons (ve_str) (va_cons (vc (TD.d_sight_error) hr tk' (va_cons (ve_var 1) (va_cons (ve_var 2) (va_cons (ve_var 3) (va_nil))))) (va_nil))))))))) (hd_nm (i := 5) T.m_BadWay sc_25.nd (fun _ _ _ _ _ hz hf => sx_ret (xx_tup (xa_cons (xx_str) (xa_cons (xx_f T.f_BadWay_number hz hf) (xa_nil))))) (hd_nm (i := 5) T.m_OutOfRange sc_25.nd (fun _ _ _ _ _ hz hf => sx_ret (xx_tup (xa_cons (xx_str) (xa_cons (xx_f T.f_OutOfRange_value hz hf) (xa_nil))))) (hd_nm (i := 5) T.m_Unequal sc_25.nd (fun _ _ _ _ _ hz hf => sx_ret (xx_tup (xa_cons (xx_str) (xa_cons (xx_f T.f_Unequal_value hz hf) (xa_nil))))) (hd_un T.m_LightError (fun _ _ _ _ => vs_one (vs_ret (ve_tup (va_cons (ve_str) (va_cons (ve_int) (va_nil)))))) (hd_nil))))))
theorem ok_26 (T : Tx P w K mg base cl) (TD : TxD P w K mg base cl d) {f : Addr} {cdv : Value} {A : Around} {outer : List PySem.Env} {s : Shared} {H : Hp} {E : XK} {He : Hp} (hr : Room (d + 2) (A.deeper (envOfC "_law_meet" (defScope (topS 39)) s.heap.objs.size f cdv))) :
    PVs (cxOf (L2.CX P w) P w K mg base ["one", "way", "other", "second", "turn", "gap", "k"] "_law_meet" (defScope (topS 39)) f cdv A outer s H E) cl (fun c d _ H => E c d H) He H (defBody (topS 39)) (b__law_meet (FT d)) := by
  have tk : Takes (cxOf (L2.CX P w) P w K mg base ["one", "way", "other", "second", "turn", "gap", "k"] "_law_meet" (defScope (topS 39)) f cdv A outer s H E) (fun c d _ H => E c d H) := takes_of rfl rfl rfl rfl
  exact vs_cons (vs_set sc_26.nd (vc (TD.d__law_turn_of) hr tk (va_cons (ve_var 1) (va_cons (ve_var 3) (va_nil))))) (vs_cons (vs_if (vt_cmp (or_eq (room64 hr)) ov_eq (ve_var 4) (ve_int)) (vs_one (vs_ret (ve_non))) (vs_nil)) (vs_cons (vs_set sc_26.nd (ve_tup (va_cons (ve_bin op_sub ov_sub (ve_ix (ve_var 2) (ve_int)) (ve_ix (ve_var 0) (ve_int))) (va_cons (ve_bin op_sub ov_sub (ve_ix (ve_var 2) (ve_int)) (ve_ix (ve_var 0) (ve_int))) (va_nil))))) (vs_cons (vs_set sc_26.nd (vc (TD.d__law_turn_of) hr tk (va_cons (ve_var 5) (va_cons (ve_var 3) (va_nil))))) (vs_one (vs_ret (ve_tup (va_cons (vc (TD.d__law_lowest) hr tk (va_cons (ve_bin or_add ov_add (ve_bin or_mul ov_mul (ve_ix (ve_var 0) (ve_int)) (ve_var 4)) (ve_bin or_mul ov_mul (ve_var 6) (ve_ix (ve_var 1) (ve_int)))) (va_cons (ve_var 4) (va_nil)))) (va_cons (vc (TD.d__law_lowest) hr tk (va_cons (ve_bin or_add ov_add (ve_bin or_mul ov_mul (ve_ix (ve_var 0) (ve_int)) (ve_var 4)) (ve_bin or_mul ov_mul (ve_var 6) (ve_ix (ve_var 1) (ve_int)))) (va_cons (ve_var 4) (va_nil)))) (va_nil)))))))))
theorem ok_27 (T : Tx P w K mg base cl) (TD : TxD P w K mg base cl d) {f : Addr} {cdv : Value} {A : Around} {outer : List PySem.Env} {s : Shared} {H : Hp} {E : XK} {He : Hp} (hr : Room (d + 2) (A.deeper (envOfC "_law_fix" (defScope (topS 40)) s.heap.objs.size f cdv))) :
    PVs (cxOf (L2.CX P w) P w K mg base ["one", "way", "other", "second", "spot", "pair", "x", "y", "along"] "_law_fix" (defScope (topS 40)) f cdv A outer s H E) cl (fun c d _ H => E c d H) He H (defBody (topS 40)) (b__law_fix (FT d)) := by
  have tk : Takes (cxOf (L2.CX P w) P w K mg base ["one", "way", "other", "second", "spot", "pair", "x", "y", "along"] "_law_fix" (defScope (topS 40)) f cdv A outer s H E) (fun c d _ H => E c d H) := takes_of rfl rfl rfl rfl
  have hp := passes_of (X := cxOf (L2.CX P w) P w K mg base ["one", "way", "other", "second", "spot", "pair", "x", "y", "along"] "_law_fix" (defScope (topS 40)) f cdv A outer s H E) rfl
  exact vs_cons (vs_set sc_27.nd (vc (TD.d__law_meet) hr tk (va_cons (ve_var 0) (va_cons (ve_var 1) (va_cons (ve_var 2) (va_cons (ve_var 3) (va_nil))))))) (vs_cons (vs_if (vt_cmp or_is ov_is (ve_var 4) (ve_non)) (vs_one (vs_ret (ve_non))) (vs_nil)) (vs_cons (vs_for hp rfl bears_wk wk_of (vi_seq (ve_lst (va_cons (ve_tup (va_cons (ve_var 0) (va_cons (ve_var 1) (va_nil)))) (va_cons (ve_tup (va_cons (ve_var 2) (va_cons (ve_var 3) (va_nil)))) (va_nil))))) (pg_name (i := 5) sc_27.nd rfl (by first | exact Or.inl rfl | exact Or.inr rfl)) (tg_name 5) (vs_cons (vs_set sc_27.nd (ve_tup (va_cons (ve_bin op_sub ov_sub (ve_bin or_mul ov_mul (ve_ix (ve_ix (ve_var 5) (ve_int)) (ve_int)) (ve_ix (ve_ix (ve_var 4) (ve_int)) (ve_int))) (ve_ix (ve_ix (ve_var 4) (ve_int)) (ve_int))) (va_cons (ve_ix (ve_ix (ve_var 4) (ve_int)) (ve_int)) (va_nil))))) (vs_cons (vs_set sc_27.nd (ve_tup (va_cons (ve_bin op_sub ov_sub (ve_bin or_mul ov_mul (ve_ix (ve_ix (ve_var 5) (ve_int)) (ve_int)) (ve_ix (ve_ix (ve_var 4) (ve_int)) (ve_int))) (ve_ix (ve_ix (ve_var 4) (ve_int)) (ve_int))) (va_cons (ve_ix (ve_ix (ve_var 4) (ve_int)) (ve_int)) (va_nil))))) (vs_cons (vs_set sc_27.nd (ve_bin or_add ov_add (ve_bin or_mul ov_mul (ve_bin or_mul ov_mul (ve_ix (ve_var 6) (ve_int)) (ve_ix (ve_var 7) (ve_int))) (ve_ix (ve_ix (ve_var 5) (ve_int)) (ve_int))) (ve_bin or_mul ov_mul (ve_bin or_mul ov_mul (ve_ix (ve_var 7) (ve_int)) (ve_ix (ve_var 6) (ve_int))) (ve_ix (ve_ix (ve_var 5) (ve_int)) (ve_int))))) (vs_one (vs_if (vt_cmp or_le ov_le (ve_var 8) (ve_int)) (vs_one (vs_ret (ve_non))) (vs_nil))))))) (vs_one (vs_ret (ve_var 4)))))
theorem ok_28 (T : Tx P w K mg base cl) (TD : TxD P w K mg base cl d) {f : Addr} {cdv : Value} {A : Around} {outer : List PySem.Env} {s : Shared} {H : Hp} {E : XK} {He : Hp} (hr : Room (d + 2) (A.deeper (envOfC "_law_side_of" (defScope (topS 41)) s.heap.objs.size f cdv))) :
    PVs (cxOf (L2.CX P w) P w K mg base ["sight", "spot", "x", "y"] "_law_side_of" (defScope (topS 41)) f cdv A outer s H E) cl (fun c d _ H => E c d H) He H (defBody (topS 41)) (b__law_side_of (FT d)) := by
  have tk : Takes (cxOf (L2.CX P w) P w K mg base ["sight", "spot", "x", "y"] "_law_side_of" (defScope (topS 41)) f cdv A outer s H E) (fun c d _ H => E c d H) := takes_of rfl rfl rfl rfl
  exact vs_cons (vs_set sc_28.nd (ve_bin op_sub ov_sub (ve_ix (ve_ix (ve_var 1) (ve_int)) (ve_int)) (ve_bin or_mul ov_mul (ve_ix (ve_ix (ve_var 0) (ve_int)) (ve_int)) (ve_ix (ve_ix (ve_var 1) (ve_int)) (ve_int))))) (vs_cons (vs_set sc_28.nd (ve_bin op_sub ov_sub (ve_ix (ve_ix (ve_var 1) (ve_int)) (ve_int)) (ve_bin or_mul ov_mul (ve_ix (ve_ix (ve_var 0) (ve_int)) (ve_int)) (ve_ix (ve_ix (ve_var 1) (ve_int)) (ve_int))))) (vs_one (vs_ret (ve_bin op_sub ov_sub (ve_bin or_mul ov_mul (ve_bin or_mul ov_mul (ve_ix (ve_ix (ve_var 0) (ve_int)) (ve_int)) (ve_var 3)) (ve_ix (ve_ix (ve_var 1) (ve_int)) (ve_int))) (ve_bin or_mul ov_mul (ve_bin or_mul ov_mul (ve_ix (ve_ix (ve_var 0) (ve_int)) (ve_int)) (ve_var 2)) (ve_ix (ve_ix (ve_var 1) (ve_int)) (ve_int)))))))
theorem ok_29 (T : Tx P w K mg base cl) (TD : TxD P w K mg base cl d) {f : Addr} {cdv : Value} {A : Around} {outer : List PySem.Env} {s : Shared} {H : Hp} {E : XK} {He : Hp} (hr : Room (d + 2) (A.deeper (envOfC "law" (defScope (topS 42)) s.heap.objs.size f cdv))) :
    PVs (cxOf (L2.CX P w) P w K mg base ["script", "one", "other", "third", "way", "second", "last", "ship", "sights", "pairs", "corners", "due", "xs", "common", "corner", "area", "hat", "inside", "spot", "k", "across", "told", "cross_v", "off", "square", "none", "pair"] "law" (defScope (topS 42)) f cdv A outer s H E) cl (fun c d _ H => E c d H) He H (defBody (topS 42)) (b_law_v20 (FT d)) := by
  have tk : Takes (cxOf (L2.CX P w) P w K mg base ["script", "one", "other", "third", "way", "second", "last", "ship", "sights", "pairs", "corners", "due", "xs", "common", "corner", "area", "hat", "inside", "spot", "k", "across", "told", "cross_v", "off", "square", "none", "pair"] "law" (defScope (topS 42)) f cdv A outer s H E) (fun c d _ H => E c d H) := takes_of rfl rfl rfl rfl
  have hp := passes_of (X := cxOf (L2.CX P w) P w K mg base ["script", "one", "other", "third", "way", "second", "last", "ship", "sights", "pairs", "corners", "due", "xs", "common", "corner", "area", "hat", "inside", "spot", "k", "across", "told", "cross_v", "off", "square", "none", "pair"] "law" (defScope (topS 42)) f cdv A outer s H E) rfl
  exact vs_cons (vs_set sc_29.nd (vc (TD.d__law_ship) hr tk (va_cons (ve_callB call_abs cv_abs T.z_abs boot_abs (va_cons (vc (TD.d__law_cell) hr tk (va_cons (ve_var 0) (va_cons (ve_int) (va_nil)))) (va_nil))) (va_cons (ve_int) (va_nil))))) (vs_cons (vs_set sc_29.nd (vc (TD.d__law_ship) hr tk (va_cons (ve_callB call_abs cv_abs T.z_abs boot_abs (va_cons (vc (TD.d__law_cell) hr tk (va_cons (ve_var 0) (va_cons (ve_int) (va_nil)))) (va_nil))) (va_cons (ve_int) (va_nil))))) (vs_cons (vs_set sc_29.nd (vc (TD.d__law_ship) hr tk (va_cons (ve_callB call_abs cv_abs T.z_abs boot_abs (va_cons (vc (TD.d__law_cell) hr tk (va_cons (ve_var 0) (va_cons (ve_int) (va_nil)))) (va_nil))) (va_cons (ve_int) (va_nil))))) (vs_cons (vs_set sc_29.nd (vc (TD.d__law_way) hr tk (va_cons (ve_callB call_abs cv_abs T.z_abs boot_abs (va_cons (vc (TD.d__law_cell) hr tk (va_cons (ve_var 0) (va_cons (ve_int) (va_nil)))) (va_nil))) (va_cons (ve_int) (va_nil))))) (vs_cons (vs_set sc_29.nd (vc (TD.d__law_way) hr tk (va_cons (ve_callB call_abs cv_abs T.z_abs boot_abs (va_cons (vc (TD.d__law_cell) hr tk (va_cons (ve_var 0) (va_cons (ve_int) (va_nil)))) (va_nil))) (va_cons (ve_int) (va_nil))))) (vs_cons (vs_set sc_29.nd (vc (TD.d__law_way) hr tk (va_cons (ve_callB call_abs cv_abs T.z_abs boot_abs (va_cons (vc (TD.d__law_cell) hr tk (va_cons (ve_var 0) (va_cons (ve_int) (va_nil)))) (va_nil))) (va_cons (ve_int) (va_nil))))) (vs_cons (vs_set sc_29.nd (vc (TD.d__law_ship) hr tk (va_cons (ve_bin or_add ov_add (ve_callB call_abs cv_abs T.z_abs boot_abs (va_cons (vc (TD.d__law_cell) hr tk (va_cons (ve_var 0) (va_cons (ve_int) (va_nil)))) (va_nil))) (ve_int)) (va_cons (ve_int) (va_nil))))) (vs_cons (vs_if (PW.pt (vw_and (vt_cmp (or_eq (room64 hr)) ov_eq (ve_bin op_mod ov_mod (ve_callTy call_int1 cv_int T.z_int boot_int (va_cons (vc (TD.d__law_cell) hr tk (va_cons (ve_var 0) (va_cons (ve_int) (va_nil)))) (va_nil))) (ve_int)) (ve_int)) (vw_and1 (vt_cmp (or_nin (room65 hr)) ov_nin (ve_var 7) (ve_lst (va_cons (ve_var 1) (va_cons (ve_var 2) (va_nil)))))))) (vs_cons (vs_set sc_29.nd (ve_tup (va_cons (ve_bin op_sub ov_sub (ve_ix (ve_var 1) (ve_int)) (ve_ix (ve_var 7) (ve_int))) (va_cons (ve_bin op_sub ov_sub (ve_ix (ve_var 1) (ve_int)) (ve_ix (ve_var 7) (ve_int))) (va_nil))))) (vs_one (vs_set sc_29.nd (ve_tup (va_cons (ve_bin op_sub ov_sub (ve_ix (ve_var 2) (ve_int)) (ve_ix (ve_var 7) (ve_int))) (va_cons (ve_bin op_sub ov_sub (ve_ix (ve_var 2) (ve_int)) (ve_ix (ve_var 7) (ve_int))) (va_nil))))))) (vs_nil)) (vs_cons (vs_if (vt_cmp (or_ne (room64 hr)) ov_ne (vc (TD.d__law_told) hr tk (va_cons (ve_int) (va_cons (ve_var 1) (va_cons (ve_var 4) (va_cons (ve_var 2) (va_cons (ve_var 5) (va_nil))))))) (ve_tup (va_cons (ve_str) (va_cons (vc (TD.d__law_fix) hr tk (va_cons (ve_var 1) (va_cons (ve_var 4) (va_cons (ve_var 2) (va_cons (ve_var 5) (va_nil)))))) (va_nil))))) (vs_one (vs_ret (ve_bl))) (vs_nil)) (vs_cons (vs_set sc_29.nd (ve_lst (va_cons (ve_tup (va_cons (ve_var 1) (va_cons (ve_var 4) (va_nil)))) (va_cons (ve_tup (va_cons (ve_var 2) (va_cons (ve_var 5) (va_nil)))) (va_cons (ve_tup (va_cons (ve_var 3) (va_cons (ve_var 6) (va_nil)))) (va_nil)))))) (vs_cons (vs_set sc_29.nd (ve_lst (va_cons (ve_tup (va_cons (ve_int) (va_cons (ve_int) (va_nil)))) (va_cons (ve_tup (va_cons (ve_int) (va_cons (ve_int) (va_nil)))) (va_cons (ve_tup (va_cons (ve_int) (va_cons (ve_int) (va_nil)))) (va_nil)))))) (vs_cons (vs_setLc (own := [(("pair" : Str), 26)]) rfl sc_29.nd (vi_seq (ve_var 9)) wk_of (blk_of (by rfl)) (tg_name 26) (mem_tn rfl) (fun _ _ _ _ _ => pg_name (i := 26) sc_29.nd rfl (by first | exact Or.inl rfl | exact Or.inr rfl)) (fun _ _ _ _ _ => vts_nil) (fun _ _ _ _ _ => vc (TD.d__law_meet) hr takes_none5 (va_cons (ve_ix (ve_ix (ve_var 8) (ve_ix (ve_var 26) (ve_int))) (ve_int)) (va_cons (ve_ix (ve_ix (ve_var 8) (ve_ix (ve_var 26) (ve_int))) (ve_int)) (va_cons (ve_ix (ve_ix (ve_var 8) (ve_ix (ve_var 26) (ve_int))) (ve_int)) (va_cons (ve_ix (ve_ix (ve_var 8) (ve_ix (ve_var 26) (ve_int))) (ve_int)) (va_nil))))))) (vs_cons (vs_set sc_29.nd (ve_non)) (vs_cons (vs_if (vt_cmp (or_nin (room65 hr)) ov_nin (ve_non) (ve_var 10)) (vs_cons (vs_own sc_29.nd (vo_lst (va_nil))) (vs_cons (vs_set sc_29.nd (ve_int)) (vs_cons (vs_for hp rfl bears_wk wk_of (vi_seq (ve_var 10)) (pg_name (i := 14) sc_29.nd rfl (by first | exact Or.inl rfl | exact Or.inr rfl)) (tg_name 14) (vs_one (vs_set sc_29.nd (ve_bin or_mul ov_mul (ve_bin or_mul ov_mul (ve_var 13) (ve_ix (ve_ix (ve_var 14) (ve_int)) (ve_int))) (ve_ix (ve_ix (ve_var 14) (ve_int)) (ve_int)))))) (vs_cons (vs_for hp rfl bears_wk wk_of (vi_seq (ve_var 10)) (pg_name (i := 14) sc_29.nd rfl (by first | exact Or.inl rfl | exact Or.inr rfl)) (tg_name 14) (vs_one (vs_met PySem.F.slot_list_append PySem.F.type_list_append mt_append met_app (va_cons (ve_tup (va_cons (ve_bin or_mul ov_mul (ve_ix (ve_ix (ve_var 14) (ve_int)) (ve_int)) (ve_bin op_fdivS ov_div (ve_var 13) (ve_ix (ve_ix (ve_var 14) (ve_int)) (ve_int)))) (va_cons (ve_bin or_mul ov_mul (ve_ix (ve_ix (ve_var 14) (ve_int)) (ve_int)) (ve_bin op_fdivS ov_div (ve_var 13) (ve_ix (ve_ix (ve_var 14) (ve_int)) (ve_int)))) (va_nil)))) (va_nil))))) (vs_cons (vs_set sc_29.nd (ve_bin op_sub ov_sub (ve_bin or_mul ov_mul (ve_bin op_sub ov_sub (ve_ix (ve_ix (ve_var 12) (ve_int)) (ve_int)) (ve_ix (ve_ix (ve_var 12) (ve_int)) (ve_int))) (ve_bin op_sub ov_sub (ve_ix (ve_ix (ve_var 12) (ve_int)) (ve_int)) (ve_ix (ve_ix (ve_var 12) (ve_int)) (ve_int)))) (ve_bin or_mul ov_mul (ve_bin op_sub ov_sub (ve_ix (ve_ix (ve_var 12) (ve_int)) (ve_int)) (ve_ix (ve_ix (ve_var 12) (ve_int)) (ve_int))) (ve_bin op_sub ov_sub (ve_ix (ve_ix (ve_var 12) (ve_int)) (ve_int)) (ve_ix (ve_ix (ve_var 12) (ve_int)) (ve_int)))))) (vs_one (vs_set sc_29.nd (ve_tup (va_cons (vc (TD.d__law_lowest) hr tk (va_cons (ve_callB call_abs cv_abs T.z_abs boot_abs (va_cons (ve_var 15) (va_nil))) (va_cons (ve_bin or_mul ov_mul (ve_var 13) (ve_var 13)) (va_nil)))) (va_cons (ve_var 10) (va_nil))))))))))) (vs_nil)) (vs_cons (vs_set sc_29.nd (vc (TD.d__law_told) hr tk (va_cons (ve_int) (va_cons (ve_callTy call_list_of cv_list T.z_list boot_list (va_cons (ve_var 8) (va_nil))) (va_cons (ve_int) (va_cons (ve_int) (va_cons (ve_int) (va_nil)))))))) (vs_cons (vs_if (PW.pt (vw_and (vt_cmp (or_ne (room64 hr)) ov_ne (ve_var 16) (ve_tup (va_cons (ve_str) (va_cons (ve_var 11) (va_nil))))) (vw_and1 (vt_not (PW.pt (vw_and (vt_cmp or_isnt ov_isnt (ve_var 11) (ve_non)) (vw_and1 (vt_cmp (or_eq (room64 hr)) ov_eq (ve_var 16) (ve_tup (va_cons (ve_str) (va_cons (ve_tup (va_cons (ve_ix (ve_var 11) (ve_int)) (va_cons (ve_callTy call_tuple_of cv_tuple T.z_tuple boot_tuple (va_cons (ve_ix (ve_var 11) (ve_int)) (va_nil))) (va_nil)))) (va_nil)))))))))))) (vs_one (vs_ret (ve_bl))) (vs_nil)) (vs_cons (vs_if (PW.pt (vw_and (vt_cmp or_isnt ov_isnt (ve_var 11) (ve_non)) (vw_and1 (vt_cmp op_gt ov_gt (ve_ix (ve_ix (ve_var 11) (ve_int)) (ve_int)) (ve_int))))) (vs_cons (vs_set sc_29.nd (ve_bl)) (vs_cons (vs_set sc_29.nd (ve_tup (va_cons (ve_tup (va_cons (ve_ix (ve_var 7) (ve_int)) (va_cons (ve_int) (va_nil)))) (va_cons (ve_tup (va_cons (ve_ix (ve_var 7) (ve_int)) (va_cons (ve_int) (va_nil)))) (va_nil))))) (vs_cons (vs_for hp rfl bears_wkA wkA_of (vi_r1 (ve_int) T.z_range) (pg_name (i := 19) sc_29.nd rfl (by first | exact Or.inl rfl | exact Or.inr rfl)) (tg_name 19) (vs_cons (vs_set sc_29.nd (ve_ix (ve_var 10) (ve_bin op_sub ov_sub (ve_int) (ve_var 19)))) (vs_one (vs_set sc_29.nd (ve_and (ve_var 17) (ve_one (ve_cmp op_ge ov_ge (ve_bin or_mul ov_mul (vc (TD.d__law_side_of) hr tk (va_cons (ve_ix (ve_var 8) (ve_var 19)) (va_cons (ve_var 18) (va_nil)))) (vc (TD.d__law_side_of) hr tk (va_cons (ve_ix (ve_var 8) (ve_var 19)) (va_cons (ve_var 20) (va_nil))))) (ve_int)))))))) (vs_cons (vs_set sc_29.nd (vc (TD.d__law_told) hr tk (va_cons (ve_int) (va_cons (ve_callTy call_list_of cv_list T.z_list boot_list (va_cons (ve_var 8) (va_nil))) (va_cons (ve_var 7) (va_cons (ve_int) (va_cons (ve_int) (va_nil)))))))) (vs_one (vs_if (PW.pt (vw_or (vt_cmp (or_ne (room64 hr)) ov_ne (ve_var 21) (ve_tup (va_cons (ve_str) (va_cons (ve_var 17) (va_nil))))) (vw_or1 (vt_not (vt_tru (ve_callB call_isi cv_isa T.z_isinstance boot_isinstance (va_cons (ve_ix (ve_var 21) (ve_int)) (va_cons ((ve_ty T.z_bool boot_bool)) (va_nil))))))))) (vs_one (vs_ret (ve_bl))) (vs_nil))))))) (vs_nil)) (vs_cons (vs_set sc_29.nd (vc (TD.d__law_turn_of) hr tk (va_cons (ve_var 4) (va_cons (ve_tup (va_cons (ve_bin op_sub ov_sub (ve_ix (ve_var 7) (ve_int)) (ve_ix (ve_var 1) (ve_int))) (va_cons (ve_bin op_sub ov_sub (ve_ix (ve_var 7) (ve_int)) (ve_ix (ve_var 1) (ve_int))) (va_nil)))) (va_nil))))) (vs_cons (vs_set sc_29.nd (vc (TD.d__law_told) hr tk (va_cons (ve_int) (va_cons (ve_var 1) (va_cons (ve_var 4) (va_cons (ve_var 7) (va_cons (ve_int) (va_nil)))))))) (vs_cons (vs_set sc_29.nd (vc (TD.d__law_lowest) hr tk (va_cons (ve_bin or_mul ov_mul (ve_var 22) (ve_var 22)) (va_cons (ve_bin or_add ov_add (ve_bin or_mul ov_mul (ve_ix (ve_var 4) (ve_int)) (ve_ix (ve_var 4) (ve_int))) (ve_bin or_mul ov_mul (ve_ix (ve_var 4) (ve_int)) (ve_ix (ve_var 4) (ve_int)))) (va_nil))))) (vs_cons (vs_if (PW.pt (vw_or (vt_cmp (or_ne (room64 hr)) ov_ne (ve_ix (ve_var 23) (ve_int)) (ve_str)) (vw_or (vt_cmp (or_ne (room64 hr)) ov_ne (ve_ix (ve_ix (ve_var 23) (ve_int)) (ve_int)) (ve_var 24)) (vw_or1 (vt_cmp (or_ne (room64 hr)) ov_ne (ve_cmp (or_eq (room64 hr)) ov_eq (ve_ix (ve_ix (ve_var 23) (ve_int)) (ve_int)) (ve_str)) (ve_cmp (or_eq (room64 hr)) ov_eq (ve_var 22) (ve_int))))))) (vs_one (vs_ret (ve_bl))) (vs_nil)) (vs_cons (vs_set sc_29.nd (ve_tup (va_cons (ve_int) (va_cons (ve_int) (va_nil))))) (vs_cons (vs_if (PW.pt (vw_or (vt_cmp (or_ne (room64 hr)) ov_ne (vc (TD.d__law_told) hr tk (va_cons (ve_int) (va_cons (ve_var 1) (va_cons (ve_var 25) (va_cons (ve_var 2) (va_cons (ve_var 25) (va_nil))))))) (ve_tup (va_cons (ve_str) (va_cons (ve_int) (va_nil))))) (vw_or (vt_cmp (or_ne (room64 hr)) ov_ne (vc (TD.d__law_told) hr tk (va_cons (ve_int) (va_cons (ve_var 1) (va_cons (ve_var 4) (va_cons (ve_var 2) (va_cons (ve_var 25) (va_nil))))))) (ve_tup (va_cons (ve_str) (va_cons (ve_int) (va_nil))))) (vw_or1 (vt_cmp (or_ne (room64 hr)) ov_ne (vc (TD.d__law_told) hr tk (va_cons (ve_int) (va_cons (ve_tup (va_cons (ve_int) (va_cons (ve_int) (va_nil)))) (va_cons (ve_var 4) (va_cons (ve_var 2) (va_cons (ve_var 5) (va_nil))))))) (ve_tup (va_cons (ve_str) (va_cons (ve_int) (va_nil))))))))) (vs_one (vs_ret (ve_bl))) (vs_nil)) (vs_one (vs_ret (ve_and (ve_cmp (or_eq (room64 hr)) ov_eq (vc (TD.d__law_told) hr tk (va_cons (ve_int) (va_cons (ve_slice (ve_var 8) (vo_none) (vo_some (ve_int))) (va_cons (ve_int) (va_cons (ve_int) (va_cons (ve_int) (va_nil))))))) (ve_tup (va_cons (ve_str) (va_cons (ve_int) (va_nil))))) (ve_one (ve_cmp (or_eq (room64 hr)) ov_eq (vc (TD.d__law_told) hr tk (va_cons (ve_int) (va_cons (ve_lst (va_cons (ve_ix (ve_var 8) (ve_int)) (va_cons (ve_tup (va_cons (ve_var 1) (va_cons (ve_var 25) (va_nil)))) (va_cons (ve_ix (ve_var 8) (ve_int)) (va_nil))))) (va_cons (ve_int) (va_cons (ve_int) (va_cons (ve_int) (va_nil))))))) (ve_tup (va_cons (ve_str) (va_cons (ve_int) (va_nil)))))))))))))))))))))))))))))))
theorem all_ok (T : Tx P w K mg base cl) (X : Txt K mg) : ∀ d, TxD P w K mg base cl d := by
  intro d
  induction d with
  | zero => exact ⟨nun X.g_gcd_of bd_0, nun X.g_lowest bd_1, nun X.g_is_way bd_2, nun X.g_check_ways bd_3, nun X.g_check_place bd_4, nun X.g_cross bd_5, nun X.g_dot bd_6, nun X.g_way_between bd_7, nun X.g_word_of bd_8, nun X.g_off_by bd_9, nun X.g_crossing_of bd_10, nun X.g_is_seen_so bd_11, nun X.g_fix_by bd_12, nun X.g_check_sights bd_13, nun X.g_corners_of bd_14, nun X.g_twice_area bd_15, nun X.g_hat_of bd_16, nun X.g_inside_hat bd_17, nun X.g_sight_error bd_18, nun X.g__law_cell bd_19, nun X.g__law_draw bd_20, nun X.g__law_way bd_21, nun X.g__law_turn_of bd_22, nun X.g__law_ship bd_23, nun X.g__law_lowest bd_24, nun X.g__law_told bd_25, nun X.g__law_meet bd_26, nun X.g__law_fix bd_27, nun X.g__law_side_of bd_28, nun X.g_law bd_29⟩
  | succ d ih => exact ⟨dun X.g_gcd_of sc_0 bd_0 fun _ _ _ _ _ _ _ _ hr => ok_0 T ih hr, dun X.g_lowest sc_1 bd_1 fun _ _ _ _ _ _ _ _ hr => ok_1 T ih hr, dun X.g_is_way sc_2 bd_2 fun _ _ _ _ _ _ _ _ hr => ok_2 T ih hr, dun X.g_check_ways sc_3 bd_3 fun _ _ _ _ _ _ _ _ hr => ok_3 T ih hr, dun X.g_check_place sc_4 bd_4 fun _ _ _ _ _ _ _ _ hr => ok_4 T ih hr, dun X.g_cross sc_5 bd_5 fun _ _ _ _ _ _ _ _ hr => ok_5 T ih hr, dun X.g_dot sc_6 bd_6 fun _ _ _ _ _ _ _ _ hr => ok_6 T ih hr, dun X.g_way_between sc_7 bd_7 fun _ _ _ _ _ _ _ _ hr => ok_7 T ih hr, dun X.g_word_of sc_8 bd_8 fun _ _ _ _ _ _ _ _ hr => ok_8 T ih hr, dun X.g_off_by sc_9 bd_9 fun _ _ _ _ _ _ _ _ hr => ok_9 T ih hr, dun X.g_crossing_of sc_10 bd_10 fun _ _ _ _ _ _ _ _ hr => ok_10 T ih hr, dun X.g_is_seen_so sc_11 bd_11 fun _ _ _ _ _ _ _ _ hr => ok_11 T ih hr, dun X.g_fix_by sc_12 bd_12 fun _ _ _ _ _ _ _ _ hr => ok_12 T ih hr, dun X.g_check_sights sc_13 bd_13 fun _ _ _ _ _ _ _ _ hr => ok_13 T ih hr, dun X.g_corners_of sc_14 bd_14 fun _ _ _ _ _ _ _ _ hr => ok_14 T ih hr, dun X.g_twice_area sc_15 bd_15 fun _ _ _ _ _ _ _ _ hr => ok_15 T ih hr, dun X.g_hat_of sc_16 bd_16 fun _ _ _ _ _ _ _ _ hr => ok_16 T ih hr, dun X.g_inside_hat sc_17 bd_17 fun _ _ _ _ _ _ _ _ hr => ok_17 T ih hr, dun X.g_sight_error sc_18 bd_18 fun _ _ _ _ _ _ _ _ hr => ok_18 T ih hr, dun X.g__law_cell sc_19 bd_19 fun _ _ _ _ _ _ _ _ hr => ok_19 T ih hr, dun X.g__law_draw sc_20 bd_20 fun _ _ _ _ _ _ _ _ hr => ok_20 T ih hr, dun X.g__law_way sc_21 bd_21 fun _ _ _ _ _ _ _ _ hr => ok_21 T ih hr, dun X.g__law_turn_of sc_22 bd_22 fun _ _ _ _ _ _ _ _ hr => ok_22 T ih hr, dun X.g__law_ship sc_23 bd_23 fun _ _ _ _ _ _ _ _ hr => ok_23 T ih hr, dun X.g__law_lowest sc_24 bd_24 fun _ _ _ _ _ _ _ _ hr => ok_24 T ih hr, dun X.g__law_told sc_25 bd_25 fun _ _ _ _ _ _ _ _ hr => ok_25 T ih hr, dun X.g__law_meet sc_26 bd_26 fun _ _ _ _ _ _ _ _ hr => ok_26 T ih hr, dun X.g__law_fix sc_27 bd_27 fun _ _ _ _ _ _ _ _ hr => ok_27 T ih hr, dun X.g__law_side_of sc_28 bd_28 fun _ _ _ _ _ _ _ _ hr => ok_28 T ih hr, dun X.g_law sc_29 bd_29 fun _ _ _ _ _ _ _ _ hr => ok_29 T ih hr⟩
end
def sI_OutOfRange : Stmt := inClass (topS 2) 0
theorem scI_OutOfRange : ExScope ["self", "value"] (defScope sI_OutOfRange) := exSc_of (by decide +kernel) (by rfl)
theorem ini_OutOfRange {w : World} {K : PySem.W.Frag} {mg : Str → Option Value} {base : Heap} {C fI cc cda : Addr} (T : ExC K PySem.Challenge.pw_lightbook_k24_fixes C fI cc cda "OutOfRange.__init__" sI_OutOfRange) (hmg : mg "super" = none) (n_label : PySem.W.findIn K (.ref C) "label" = some none) (n_value : PySem.W.findIn K (.ref C) "value" = some none)
    {fd : FuncData} {oc : Value} {od : Option Addr} {osl : Array (Option Value)} (lk : K.lookup fI = some ⟨oc, od, .func fd, osl⟩) : FnOk PySem.Challenge.pw_lightbook_k24_fixes w K mg base (L2.CX PySem.Challenge.pw_lightbook_k24_fixes w) 1 fI fd ["self", "value"] (spI C 1 sp_OutOfRange) :=
  init_ok (k := 0) T scI_OutOfRange rfl rfl rfl rfl hmg rfl (fun _ => rfl) (fun _ => ⟨_, rfl⟩) (fun _ => rfl) (fun p hp => by
    simp only [sp_OutOfRange, List.mem_cons, List.not_mem_nil, or_false] at hp
    rcases hp with rfl | rfl
    · exact n_label
    · exact n_value) (by decide) (fun X hN hS => ⟨_, pe_str, fun _ _ _ _ => rfl⟩) (fun X hN hS => pss_cons (ps_ost (pe_var (i := 0) (by rw [hN]; rfl) (by rw [hS]; exact .inl rfl) (by decide) (by decide)) (pe_str)) (pss_cons (ps_ost (pe_var (i := 0) (by rw [hN]; rfl) (by rw [hS]; exact .inl rfl) (by decide) (by decide)) (pe_var (i := 1) (by rw [hN]; rfl) (by rw [hS]; exact .inl rfl) (by decide) (by decide))) (pss_nil))) lk
def sI_BadWay : Stmt := inClass (topS 3) 0
theorem scI_BadWay : ExScope ["self", "number"] (defScope sI_BadWay) := exSc_of (by decide +kernel) (by rfl)
theorem ini_BadWay {w : World} {K : PySem.W.Frag} {mg : Str → Option Value} {base : Heap} {C fI cc cda : Addr} (T : ExC K PySem.Challenge.pw_lightbook_k24_fixes C fI cc cda "BadWay.__init__" sI_BadWay) (hmg : mg "super" = none) (n_label : PySem.W.findIn K (.ref C) "label" = some none) (n_number : PySem.W.findIn K (.ref C) "number" = some none)
    {fd : FuncData} {oc : Value} {od : Option Addr} {osl : Array (Option Value)} (lk : K.lookup fI = some ⟨oc, od, .func fd, osl⟩) : FnOk PySem.Challenge.pw_lightbook_k24_fixes w K mg base (L2.CX PySem.Challenge.pw_lightbook_k24_fixes w) 1 fI fd ["self", "number"] (spI C 1 sp_BadWay) :=
  init_ok (k := 0) T scI_BadWay rfl rfl rfl rfl hmg rfl (fun _ => rfl) (fun _ => ⟨_, rfl⟩) (fun _ => rfl) (fun p hp => by
    simp only [sp_BadWay, List.mem_cons, List.not_mem_nil, or_false] at hp
    rcases hp with rfl | rfl
    · exact n_label
    · exact n_number) (by decide) (fun X hN hS => ⟨_, pe_str, fun _ _ _ _ => rfl⟩) (fun X hN hS => pss_cons (ps_ost (pe_var (i := 0) (by rw [hN]; rfl) (by rw [hS]; exact .inl rfl) (by decide) (by decide)) (pe_str)) (pss_cons (ps_ost (pe_var (i := 0) (by rw [hN]; rfl) (by rw [hS]; exact .inl rfl) (by decide) (by decide)) (pe_var (i := 1) (by rw [hN]; rfl) (by rw [hS]; exact .inl rfl) (by decide) (by decide))) (pss_nil))) lk
def sI_Unequal : Stmt := inClass (topS 4) 0
theorem scI_Unequal : ExScope ["self", "value"] (defScope sI_Unequal) := exSc_of (by decide +kernel) (by rfl)
theorem ini_Unequal {w : World} {K : PySem.W.Frag} {mg : Str → Option Value} {base : Heap} {C fI cc cda : Addr} (T : ExC K PySem.Challenge.pw_lightbook_k24_fixes C fI cc cda "Unequal.__init__" sI_Unequal) (hmg : mg "super" = none) (n_label : PySem.W.findIn K (.ref C) "label" = some none) (n_value : PySem.W.findIn K (.ref C) "value" = some none)
    {fd : FuncData} {oc : Value} {od : Option Addr} {osl : Array (Option Value)} (lk : K.lookup fI = some ⟨oc, od, .func fd, osl⟩) : FnOk PySem.Challenge.pw_lightbook_k24_fixes w K mg base (L2.CX PySem.Challenge.pw_lightbook_k24_fixes w) 1 fI fd ["self", "value"] (spI C 1 sp_Unequal) :=
  init_ok (k := 0) T scI_Unequal rfl rfl rfl rfl hmg rfl (fun _ => rfl) (fun _ => ⟨_, rfl⟩) (fun _ => rfl) (fun p hp => by
    simp only [sp_Unequal, List.mem_cons, List.not_mem_nil, or_false] at hp
    rcases hp with rfl | rfl
    · exact n_label
    · exact n_value) (by decide) (fun X hN hS => ⟨_, pe_str, fun _ _ _ _ => rfl⟩) (fun X hN hS => pss_cons (ps_ost (pe_var (i := 0) (by rw [hN]; rfl) (by rw [hS]; exact .inl rfl) (by decide) (by decide)) (pe_str)) (pss_cons (ps_ost (pe_var (i := 0) (by rw [hN]; rfl) (by rw [hS]; exact .inl rfl) (by decide) (by decide)) (pe_var (i := 1) (by rw [hN]; rfl) (by rw [hS]; exact .inl rfl) (by decide) (by decide))) (pss_nil))) lk
theorem all_mk {w : World} {K : PySem.W.Frag} {h : Heap} {mg : Str → Option Value} {fa C_OutOfRange f_OutOfRange cc_OutOfRange cda_OutOfRange C_BadWay f_BadWay cc_BadWay cda_BadWay C_Unequal f_Unequal cc_Unequal cda_Unequal C_LightError : Addr} (X : K.In h) (G : h.Ns mainGlobals mg) (hfa : mg "law" = some (.ref fa))
    (a_OutOfRange : PySem.W.nsIn K mainGlobals "OutOfRange" = some (some (.ref C_OutOfRange)))
    (T_OutOfRange : ExC K PySem.Challenge.pw_lightbook_k24_fixes C_OutOfRange f_OutOfRange cc_OutOfRange cda_OutOfRange "OutOfRange.__init__" sI_OutOfRange)
    (n_OutOfRange_label : PySem.W.findIn K (.ref C_OutOfRange) "label" = some none)
    (n_OutOfRange_value : PySem.W.findIn K (.ref C_OutOfRange) "value" = some none)
    (a_BadWay : PySem.W.nsIn K mainGlobals "BadWay" = some (some (.ref C_BadWay)))
    (T_BadWay : ExC K PySem.Challenge.pw_lightbook_k24_fixes C_BadWay f_BadWay cc_BadWay cda_BadWay "BadWay.__init__" sI_BadWay)
    (n_BadWay_label : PySem.W.findIn K (.ref C_BadWay) "label" = some none)
    (n_BadWay_number : PySem.W.findIn K (.ref C_BadWay) "number" = some none)
    (a_Unequal : PySem.W.nsIn K mainGlobals "Unequal" = some (some (.ref C_Unequal)))
    (T_Unequal : ExC K PySem.Challenge.pw_lightbook_k24_fixes C_Unequal f_Unequal cc_Unequal cda_Unequal "Unequal.__init__" sI_Unequal)
    (n_Unequal_label : PySem.W.findIn K (.ref C_Unequal) "label" = some none)
    (n_Unequal_value : PySem.W.findIn K (.ref C_Unequal) "value" = some none)
    (a_LightError : PySem.W.nsIn K mainGlobals "LightError" = some (some (.ref C_LightError)))
    (e_BadWay : PySem.W.subIn K (.ref C_BadWay) (.type "BaseException") = some true)
    (i_BadWay : PySem.W.isClsIn K C_BadWay = true)
    (t_BadWay : PySem.W.typeIn K (.ref C_BadWay) = some (.type "type"))
    (s_OutOfRange_BadWay : PySem.W.subIn K (.ref C_OutOfRange) (.ref C_BadWay) = some false)
    (s_BadWay_BadWay : PySem.W.subIn K (.ref C_BadWay) (.ref C_BadWay) = some true)
    (s_Unequal_BadWay : PySem.W.subIn K (.ref C_Unequal) (.ref C_BadWay) = some false)
    (e_LightError : PySem.W.subIn K (.ref C_LightError) (.type "BaseException") = some true)
    (i_LightError : PySem.W.isClsIn K C_LightError = true)
    (t_LightError : PySem.W.typeIn K (.ref C_LightError) = some (.type "type"))
    (s_OutOfRange_LightError : PySem.W.subIn K (.ref C_OutOfRange) (.ref C_LightError) = some true)
    (s_BadWay_LightError : PySem.W.subIn K (.ref C_BadWay) (.ref C_LightError) = some true)
    (s_Unequal_LightError : PySem.W.subIn K (.ref C_Unequal) (.ref C_LightError) = some true)
    (e_OutOfRange : PySem.W.subIn K (.ref C_OutOfRange) (.type "BaseException") = some true)
    (i_OutOfRange : PySem.W.isClsIn K C_OutOfRange = true)
    (t_OutOfRange : PySem.W.typeIn K (.ref C_OutOfRange) = some (.type "type"))
    (s_OutOfRange_OutOfRange : PySem.W.subIn K (.ref C_OutOfRange) (.ref C_OutOfRange) = some true)
    (s_BadWay_OutOfRange : PySem.W.subIn K (.ref C_BadWay) (.ref C_OutOfRange) = some false)
    (s_Unequal_OutOfRange : PySem.W.subIn K (.ref C_Unequal) (.ref C_OutOfRange) = some false)
    (e_Unequal : PySem.W.subIn K (.ref C_Unequal) (.type "BaseException") = some true)
    (i_Unequal : PySem.W.isClsIn K C_Unequal = true)
    (t_Unequal : PySem.W.typeIn K (.ref C_Unequal) = some (.type "type"))
    (s_OutOfRange_Unequal : PySem.W.subIn K (.ref C_OutOfRange) (.ref C_Unequal) = some false)
    (s_BadWay_Unequal : PySem.W.subIn K (.ref C_BadWay) (.ref C_Unequal) = some false)
    (s_Unequal_Unequal : PySem.W.subIn K (.ref C_Unequal) (.ref C_Unequal) = some true)
    (ga_BadWay : PySem.W.findIn K (.ref C_BadWay) "__getattribute__" = some (some (.builtin "BaseException.__getattribute__")))
    (gg_BadWay : PySem.W.findIn K (.ref C_BadWay) "__getattr__" = some none)
    (ge_BadWay : PySem.W.subIn K (.ref C_BadWay) (.type "BaseException") = some true)
    (gh_BadWay : PySem.W.hasDictIn K C_BadWay = true)
    (ga_OutOfRange : PySem.W.findIn K (.ref C_OutOfRange) "__getattribute__" = some (some (.builtin "BaseException.__getattribute__")))
    (gg_OutOfRange : PySem.W.findIn K (.ref C_OutOfRange) "__getattr__" = some none)
    (ge_OutOfRange : PySem.W.subIn K (.ref C_OutOfRange) (.type "BaseException") = some true)
    (gh_OutOfRange : PySem.W.hasDictIn K C_OutOfRange = true)
    (ga_Unequal : PySem.W.findIn K (.ref C_Unequal) "__getattribute__" = some (some (.builtin "BaseException.__getattribute__")))
    (gg_Unequal : PySem.W.findIn K (.ref C_Unequal) "__getattr__" = some none)
    (ge_Unequal : PySem.W.subIn K (.ref C_Unequal) (.type "BaseException") = some true)
    (gh_Unequal : PySem.W.hasDictIn K C_Unequal = true)
    (z_abs : mg "abs" = none)
    (z_bool : mg "bool" = none)
    (z_int : mg "int" = none)
    (z_isinstance : mg "isinstance" = none)
    (z_len : mg "len" = none)
    (z_list : mg "list" = none)
    (z_max : mg "max" = none)
    (z_min : mg "min" = none)
    (z_range : mg "range" = none)
    (z_super : mg "super" = none)
    (z_tuple : mg "tuple" = none)
    (c_MOST_PLACE' : ∀ cl, GlobV K cl mg "MOST_PLACE" c_MOST_PLACE)
    (c_SIGHTS' : ∀ cl, GlobV K cl mg "SIGHTS" c_SIGHTS)
    (g_gcd_of : ∃ f fd, Fun K "gcd_of" "gcd_of" (topS 6) f fd ∧ mg "gcd_of" = some (.ref f))
    (g_lowest : ∃ f fd, Fun K "lowest" "lowest" (topS 8) f fd ∧ mg "lowest" = some (.ref f))
    (g_is_way : ∃ f fd, Fun K "is_way" "is_way" (topS 11) f fd ∧ mg "is_way" = some (.ref f))
    (g_check_ways : ∃ f fd, Fun K "check_ways" "check_ways" (topS 12) f fd ∧ mg "check_ways" = some (.ref f))
    (g_check_place : ∃ f fd, Fun K "check_place" "check_place" (topS 13) f fd ∧ mg "check_place" = some (.ref f))
    (g_cross : ∃ f fd, Fun K "cross" "cross" (topS 14) f fd ∧ mg "cross" = some (.ref f))
    (g_dot : ∃ f fd, Fun K "dot" "dot" (topS 15) f fd ∧ mg "dot" = some (.ref f))
    (g_way_between : ∃ f fd, Fun K "way_between" "way_between" (topS 16) f fd ∧ mg "way_between" = some (.ref f))
    (g_word_of : ∃ f fd, Fun K "word_of" "word_of" (topS 18) f fd ∧ mg "word_of" = some (.ref f))
    (g_off_by : ∃ f fd, Fun K "off_by" "off_by" (topS 19) f fd ∧ mg "off_by" = some (.ref f))
    (g_crossing_of : ∃ f fd, Fun K "crossing_of" "crossing_of" (topS 22) f fd ∧ mg "crossing_of" = some (.ref f))
    (g_is_seen_so : ∃ f fd, Fun K "is_seen_so" "is_seen_so" (topS 23) f fd ∧ mg "is_seen_so" = some (.ref f))
    (g_fix_by : ∃ f fd, Fun K "fix_by" "fix_by" (topS 24) f fd ∧ mg "fix_by" = some (.ref f))
    (g_check_sights : ∃ f fd, Fun K "check_sights" "check_sights" (topS 25) f fd ∧ mg "check_sights" = some (.ref f))
    (g_corners_of : ∃ f fd, Fun K "corners_of" "corners_of" (topS 26) f fd ∧ mg "corners_of" = some (.ref f))
    (g_twice_area : ∃ f fd, Fun K "twice_area" "twice_area" (topS 27) f fd ∧ mg "twice_area" = some (.ref f))
    (g_hat_of : ∃ f fd, Fun K "hat_of" "hat_of" (topS 28) f fd ∧ mg "hat_of" = some (.ref f))
    (g_inside_hat : ∃ f fd, Fun K "inside_hat" "inside_hat" (topS 29) f fd ∧ mg "inside_hat" = some (.ref f))
    (g_sight_error : ∃ f fd, Fun K "sight_error" "sight_error" (topS 30) f fd ∧ mg "sight_error" = some (.ref f))
    (g__law_cell : ∃ f fd, Fun K "_law_cell" "_law_cell" (topS 32) f fd ∧ mg "_law_cell" = some (.ref f))
    (g__law_draw : ∃ f fd, Fun K "_law_draw" "_law_draw" (topS 33) f fd ∧ mg "_law_draw" = some (.ref f))
    (g__law_way : ∃ f fd, Fun K "_law_way" "_law_way" (topS 34) f fd ∧ mg "_law_way" = some (.ref f))
    (g__law_turn_of : ∃ f fd, Fun K "_law_turn_of" "_law_turn_of" (topS 35) f fd ∧ mg "_law_turn_of" = some (.ref f))
    (g__law_ship : ∃ f fd, Fun K "_law_ship" "_law_ship" (topS 36) f fd ∧ mg "_law_ship" = some (.ref f))
    (g__law_lowest : ∃ f fd, Fun K "_law_lowest" "_law_lowest" (topS 37) f fd ∧ mg "_law_lowest" = some (.ref f))
    (g__law_told : ∃ f fd, Fun K "_law_told" "_law_told" (topS 38) f fd ∧ mg "_law_told" = some (.ref f))
    (g__law_meet : ∃ f fd, Fun K "_law_meet" "_law_meet" (topS 39) f fd ∧ mg "_law_meet" = some (.ref f))
    (g__law_fix : ∃ f fd, Fun K "_law_fix" "_law_fix" (topS 40) f fd ∧ mg "_law_fix" = some (.ref f))
    (g__law_side_of : ∃ f fd, Fun K "_law_side_of" "_law_side_of" (topS 41) f fd ∧ mg "_law_side_of" = some (.ref f))
    (g_law : ∃ f fd, Fun K "law" "law" (topS 42) f fd ∧ mg "law" = some (.ref f))
    (hp : ∀ ns : List Int, ns.length ≤ 63 → (∀ z ∈ ns, Builtin.Int.intBits z ≤ 1048576) → FT (23 + 1) 418 [.src (ns.map .int)] = .ok (.bl true))
    : ∃ fd : FuncData, (∀ (s : Shared) (v : Value), BindsTo s fd ⟨[v], []⟩ [("script", v)]) ∧ ∀ base : Heap, K.In base → base.Ns mainGlobals mg → FnOk PySem.Challenge.pw_lightbook_k24_fixes w K mg base (L2.CX PySem.Challenge.pw_lightbook_k24_fixes w) 26 fa fd ["script"] (VL.spLaw K) := by
  let cl : Nat → Addr := fun k => ([0, 0, 0, 0, 0, 0, 0, 0, C_BadWay, 0, 0, 0, 0, 0, 0, 0, 0, C_OutOfRange, 0, 0, 0, 0, 0, 0, 0, C_Unequal, 0] : List Addr).getD k 0
  have X0 : Txt K mg := ⟨g_gcd_of, g_lowest, g_is_way, g_check_ways, g_check_place, g_cross, g_dot, g_way_between, g_word_of, g_off_by, g_crossing_of, g_is_seen_so, g_fix_by, g_check_sights, g_corners_of, g_twice_area, g_hat_of, g_inside_hat, g_sight_error, g__law_cell, g__law_draw, g__law_way, g__law_turn_of, g__law_ship, g__law_lowest, g__law_told, g__law_meet, g__law_fix, g__law_side_of, g_law⟩
  obtain ⟨f0, fd0, F0, hm0⟩ := g_law
  have e0 := hfa.symm.trans hm0
  cases e0
  have F1 := F0
  obtain ⟨oc, od, kV, doc, pm, an, cdv, ct, osl, rfl, lk, hcd⟩ := F1.ex
  refine ⟨PySem.W.fnOf "law" "law" (defArgs (topS 42)) (defBody (topS 42)) (defScope (topS 42)) .none kV doc pm an cdv ct, fun s v => .of_eq rfl, fun base _ _ => ?_⟩
  have T : Tx PySem.Challenge.pw_lightbook_k24_fixes w K mg base cl :=
    { z_abs := z_abs,
      z_bool := z_bool,
      z_int := z_int,
      z_isinstance := z_isinstance,
      z_len := z_len,
      z_list := z_list,
      z_max := z_max,
      z_min := z_min,
      z_range := z_range,
      z_tuple := z_tuple,
      c_MOST_PLACE := c_MOST_PLACE' cl,
      c_SIGHTS := c_SIGHTS' cl,
      x_OutOfRange := exc_at (ps := ["self", "value"]) X G a_OutOfRange T_OutOfRange (fun lk => ini_OutOfRange T_OutOfRange z_super n_OutOfRange_label n_OutOfRange_value lk) (fun _ _ _ _ _ us hl => match us, hl with | [_, _], _ => rfl) rfl,
      x_BadWay := exc_at (ps := ["self", "number"]) X G a_BadWay T_BadWay (fun lk => ini_BadWay T_BadWay z_super n_BadWay_label n_BadWay_number lk) (fun _ _ _ _ _ us hl => match us, hl with | [_, _], _ => rfl) rfl,
      x_Unequal := exc_at (ps := ["self", "value"]) X G a_Unequal T_Unequal (fun lk => ini_Unequal T_Unequal z_super n_Unequal_label n_Unequal_value lk) (fun _ _ _ _ _ us hl => match us, hl with | [_, _], _ => rfl) rfl,
      m_BadWay := exm_at X G a_BadWay (by
        intro k b e
        match k, e with
        | 0, e => cases e
        | 1, e => cases e
        | 2, e => cases e
        | 3, e => cases e
        | 4, e => cases e
        | 5, e => cases e
        | 6, e => cases e
        | 7, e => cases e
        | 8, e => cases e; exact exm_of e_BadWay i_BadWay t_BadWay s_BadWay_BadWay
        | 9, e => cases e
        | 10, e => cases e
        | 11, e => cases e
        | 12, e => cases e
        | 13, e => cases e
        | 14, e => cases e
        | 15, e => cases e
        | 16, e => cases e
        | 17, e => cases e; exact exm_of e_BadWay i_BadWay t_BadWay s_OutOfRange_BadWay
        | 18, e => cases e
        | 19, e => cases e
        | 20, e => cases e
        | 21, e => cases e
        | 22, e => cases e
        | 23, e => cases e
        | 24, e => cases e
        | 25, e => cases e; exact exm_of e_BadWay i_BadWay t_BadWay s_Unequal_BadWay
        | 26, e => cases e
        | k + 27, e => cases e),
      m_LightError := exm_at X G a_LightError (by
        intro k b e
        match k, e with
        | 0, e => cases e
        | 1, e => cases e
        | 2, e => cases e
        | 3, e => cases e
        | 4, e => cases e
        | 5, e => cases e
        | 6, e => cases e
        | 7, e => cases e
        | 8, e => cases e; exact exm_of e_LightError i_LightError t_LightError s_BadWay_LightError
        | 9, e => cases e
        | 10, e => cases e
        | 11, e => cases e
        | 12, e => cases e
        | 13, e => cases e
        | 14, e => cases e
        | 15, e => cases e
        | 16, e => cases e
        | 17, e => cases e; exact exm_of e_LightError i_LightError t_LightError s_OutOfRange_LightError
        | 18, e => cases e
        | 19, e => cases e
        | 20, e => cases e
        | 21, e => cases e
        | 22, e => cases e
        | 23, e => cases e
        | 24, e => cases e
        | 25, e => cases e; exact exm_of e_LightError i_LightError t_LightError s_Unequal_LightError
        | 26, e => cases e
        | k + 27, e => cases e),
      m_OutOfRange := exm_at X G a_OutOfRange (by
        intro k b e
        match k, e with
        | 0, e => cases e
        | 1, e => cases e
        | 2, e => cases e
        | 3, e => cases e
        | 4, e => cases e
        | 5, e => cases e
        | 6, e => cases e
        | 7, e => cases e
        | 8, e => cases e; exact exm_of e_OutOfRange i_OutOfRange t_OutOfRange s_BadWay_OutOfRange
        | 9, e => cases e
        | 10, e => cases e
        | 11, e => cases e
        | 12, e => cases e
        | 13, e => cases e
        | 14, e => cases e
        | 15, e => cases e
        | 16, e => cases e
        | 17, e => cases e; exact exm_of e_OutOfRange i_OutOfRange t_OutOfRange s_OutOfRange_OutOfRange
        | 18, e => cases e
        | 19, e => cases e
        | 20, e => cases e
        | 21, e => cases e
        | 22, e => cases e
        | 23, e => cases e
        | 24, e => cases e
        | 25, e => cases e; exact exm_of e_OutOfRange i_OutOfRange t_OutOfRange s_Unequal_OutOfRange
        | 26, e => cases e
        | k + 27, e => cases e),
      m_Unequal := exm_at X G a_Unequal (by
        intro k b e
        match k, e with
        | 0, e => cases e
        | 1, e => cases e
        | 2, e => cases e
        | 3, e => cases e
        | 4, e => cases e
        | 5, e => cases e
        | 6, e => cases e
        | 7, e => cases e
        | 8, e => cases e; exact exm_of e_Unequal i_Unequal t_Unequal s_BadWay_Unequal
        | 9, e => cases e
        | 10, e => cases e
        | 11, e => cases e
        | 12, e => cases e
        | 13, e => cases e
        | 14, e => cases e
        | 15, e => cases e
        | 16, e => cases e
        | 17, e => cases e; exact exm_of e_Unequal i_Unequal t_Unequal s_OutOfRange_Unequal
        | 18, e => cases e
        | 19, e => cases e
        | 20, e => cases e
        | 21, e => cases e
        | 22, e => cases e
        | 23, e => cases e
        | 24, e => cases e
        | 25, e => cases e; exact exm_of e_Unequal i_Unequal t_Unequal s_Unequal_Unequal
        | 26, e => cases e
        | k + 27, e => cases e),
      f_BadWay_number := ⟨⟨ga_BadWay, gg_BadWay, ge_BadWay, gh_BadWay⟩, n_BadWay_number⟩,
      f_OutOfRange_value := ⟨⟨ga_OutOfRange, gg_OutOfRange, ge_OutOfRange, gh_OutOfRange⟩, n_OutOfRange_value⟩,
      f_Unequal_value := ⟨⟨ga_Unequal, gg_Unequal, ge_Unequal, gh_Unequal⟩, n_Unequal_value⟩ }
  have TD := all_ok T X0 23
  exact (def_ok (k := 25) F0 sc_29 fun _ _ _ _ _ _ _ hr => ok_29 T TD hr).imp (law_imp (g := fun us => FT (23 + 1) 418 us) hp)
end L24
namespace L24
open PySem PySem.Spec PyProof.Rows L2 VL PF PH WY
structure Told (g : List PV → R PV) : Prop where
  v0 : ∀ a w b s : Dr, Sg a w → Sg b s → g [.int 0, encD a, encD w, encD b, encD s] = .ok (vV (fixV a w b s))
  v1 : ∀ s0 s1 s2 : Si, Sg s0.1 s0.2 → Sg s1.1 s1.2 → Sg s2.1 s2.2 → g [.int 1, .lst [encS s0, encS s1, encS s2], .int 0, .int 0, .int 0] = .ok (vV (hatV (cors s0 s1 s2)))
  v2 : ∀ (s0 s1 s2 : Si) (s : Dr) (a b c : Q2), Sg s0.1 s0.2 → Sg s1.1 s1.2 → Sg s2.1 s2.2 → cors s0 s1 s2 = some (a, b, c) → plB s = true → Nr s → crQ a b c ≠ 0 → g [.int 2, .lst [encS s0, encS s1, encS s2], encD s, .int 0, .int 0] = .ok (vV (.bl (sgnB a b c (ptQ s))))
  v3 : ∀ p w s : Dr, plB p = true → plB s = true → Nr p → Nr s → Sx w → w ≠ (0, 0) → g [.int 3, encD p, encD w, encD s, .int 0] = .ok (vV (offV p w s))
  x0 : ∀ a b s : Dr, g [.int 0, encD a, encD (0, 0), encD b, encD s] = .ok (wi "way" 0)
  x1 : ∀ a w b : Dr, w ≠ (0, 0) → g [.int 0, encD a, encD w, encD b, encD (0, 0)] = .ok (wi "way" 1)
  xf : ∀ w b s : Dr, w ≠ (0, 0) → s ≠ (0, 0) → g [.int 0, encD (100001, 0), encD w, encD b, encD s] = .ok (wi "range" 100001)
  x2 : ∀ s0 s1 : Si, Sg s0.1 s0.2 → Sg s1.1 s1.2 → g [.int 1, .lst [encS s0, encS s1], .int 0, .int 0, .int 0] = .ok (wi "unequal" 2)
  xb : ∀ (s0 : Si) (a : Dr) (s2 : Si), Sg s0.1 s0.2 → g [.int 1, .lst [encS s0, encS (a, (0, 0)), encS s2], .int 0, .int 0, .int 0] = .ok (wi "way" 1)
theorem lk_u (k : Int) : lkF "value" (une k) = some (.int k) := by unfold une lkF; rw [if_pos rfl]
theorem sp_told {F : Nat → List PV → R PV} (h319 : FixBy (F 319)) (h338 : HatOf (F 338)) (h345 : S_inside (F 345)) (h579 : S_sight_error (F 579)) : Told fun us => outR (b__law_told_v16 F (startE 6 us)) := by
  have m1 : mt_BadWay 8 = some true := rfl
  have m2 : mt_BadWay 17 = some false := rfl
  have m3 : mt_OutOfRange 17 = some true := rfl
  have m4 : mt_BadWay 25 = some false := rfl
  have m5 : mt_OutOfRange 25 = some false := rfl
  have m6 : mt_Unequal 25 = some true := rfl
  refine ⟨fun a w b s h h' => ?_, fun s0 s1 s2 g0 g1 g2 => ?_, fun s0 s1 s2 s a b c g0 g1 g2 hc ps ns nz => ?_, fun p w s pp ps np ns sw nw => ?_, fun a b s => ?_, fun a w b nw => ?_, fun w b s nw ns => ?_, fun s0 s1 g0 g1 => ?_, fun s0 a s2 g0 => ?_⟩
  · simp -implicitDefEqProofs [b__law_told_v16, h319.ok a w b s h h', szl, vV]
  · simp -implicitDefEqProofs [b__law_told_v16, h338.ok s0 s1 s2 g0 g1 g2, szl, vV]
  · simp -implicitDefEqProofs [b__law_told_v16, h345 s0 s1 s2 s a b c g0 g1 g2 hc ps ns nz, szl, vV]
  · simp -implicitDefEqProofs [b__law_told_v16, h579 p w s pp ps np ns sw nw, szl, vV]
  · simp -implicitDefEqProofs [b__law_told_v16, h319.b0 a b s, m1, lk_n, szl, wi]
  · simp -implicitDefEqProofs [b__law_told_v16, h319.b1 a w b nw, m1, lk_n, szl, wi]
  · simp -implicitDefEqProofs [b__law_told_v16, h319.far w b s nw ns, m2, m3, lk_v, szl, wi]
  · simp -implicitDefEqProofs [b__law_told_v16, h338.two s0 s1 g0 g1, m4, m5, m6, lk_u, szl, wi]
  · simp -implicitDefEqProofs [b__law_told_v16, h338.bad s0 a s2 g0, m1, lk_n, szl, wi]
theorem tm_Q (n : Nat) (q : Q2) : PV.tm (n + 2) (encQ q) = true := tm_optQ n (some q)
theorem tm_fix (a w b s : Dr) : PV.tm 63 (fixV a w b s) = true := by
  unfold fixV
  split
  · exact tm_n _
  · split
    · exact tm_Q 61 _
    · exact tm_n _
theorem tm_hat (q : Option (Q2 × Q2 × Q2)) : PV.tm 63 (hatV q) = true := by
  unfold hatV enc3
  split
  · exact tm_n _
  · rw [tm_t, tms_S, tms_S, tms_0, tm_low, tm_l, tms_S, tms_S, tms_S, tms_0, tm_Q 59, tm_Q 59, tm_Q 59]
    rfl
theorem oks : okS ("way" : Str) = true ∧ okS ("range" : Str) = true ∧ okS ("unequal" : Str) = true := by decide +kernel
variable {F : Nat → List PV → R PV}
/-- what the law knows -/
structure Kn (a b c w v l s : Dr) : Prop where
  g0 : Sg a w
  g1 : Sg b v
  g2 : Sg c l
  ps : plB s = true
  ns : Nr s
def S8 (a b c w v l : Dr) : PV := .lst [encS (a, w), encS (b, v), encS (c, l)]
theorem e21 (h147 : Told (F 147)) {ns : List Int} {a b c w v l s : Dr} (K : Kn a b c w v l s) (x3 x6 x7 x9 x10 x11 x12 x13 x14 x15 x16 x17 x18 x19 x20 x21 x22 x23 x24 x25 x26 : Sl) :
    b_law_v20_t21 F [.fz (.src (ns.map .int)), .fz (encD a), .fz (encD b), x3, .fz (encD w), .fz (encD v), x6, x7, .fz (S8 a b c w v l), x9, x10, x11, x12, x13, x14, x15, x16, x17, x18, x19, x20, x21, x22, x23, x24, x25, x26] = .ret (.bl true) := by
  obtain ⟨o1, o2, o3⟩ := oks
  have k0 := h147.x0 a b (0, 0)
  have k1 := h147.x1 a w b K.g0.n
  have k2 := h147.xf w b v K.g0.n K.g1.n
  have k3 := h147.x2 (a, w) (b, v) K.g0 K.g1
  have k4 := h147.xb (a, w) a (c, l) K.g0
  have sl : slP (S8 a b c w v l) none (some 2) = some (.lst [encS (a, w), encS (b, v)]) := rfl
  have i0 : ixP (S8 a b c w v l) (.int 0) = some (encS (a, w)) := rfl
  have i2 : ixP (S8 a b c w v l) (.int 2) = some (encS (c, l)) := rfl
  have es : PV.tup [encD a, encD (0, 0)] = encS (a, (0, 0)) := rfl
  simp -implicitDefEqProofs [b_law_v20_t21, b_law_v20_t22, b_law_v20_t23, szl, eD, k0, k1, k2, k3, k4, wi_S, ok_wi o1, ok_wi o2, ok_wi o3, sl, i0, i2, es]
theorem e17 (h147 : Told (F 147)) (h163 : S_cross (F 163)) (h55 : S_llow (F 55)) {ns : List Int} {a b c w v l s : Dr} (K : Kn a b c w v l s) (x3 x6 x9 x10 x11 x12 x13 x14 x15 x16 x17 x18 x19 x20 x21 x22 x23 x24 x25 x26 : Sl) :
    b_law_v20_t17 F [.fz (.src (ns.map .int)), .fz (encD a), .fz (encD b), x3, .fz (encD w), .fz (encD v), x6, .fz (encD s), .fz (S8 a b c w v l), x9, x10, x11, x12, x13, x14, x15, x16, x17, x18, x19, x20, x21, x22, x23, x24, x25, x26] = .ret (.bl true) := by
  have k := e21 h147 K (ns := ns)
  have e1 := h163 w (sub s a) (K.ns.sub K.g0.sma).sm
  have v3 := h147.v3 a w s K.g0.pl K.ps K.g0.sma K.ns K.g0.smw K.g0.n
  have g := K.g0.smw.crs (K.ns.sub K.g0.sma)
  have d := dt_self K.g0.smw K.g0.n
  unfold offV at v3
  have es : encD (s.1 - a.1, s.2 - a.2) = encD (sub s a) := rfl
  generalize crs w (sub s a) = cc at *
  have e55 := h55 (cc * cc) (dt w w) (by omega) (by omega)
  have el : llowV (cc * cc) (dt w w) = lowT (cc * cc) (dt w w).toNat := by rw [← low_nn, Int.toNat_of_nonneg (by omega)]
  rw [el] at e55
  have ok := eqB_self (tm_low 63 (cc * cc) (dt w w).toNat)
  have mc : mulOk cc cc = true := mulOk_l ⟨by omega, by omega⟩
  have ma : ∀ x, mulOk x w.1 = true := fun x => mk1 K.g0.smw.sm x
  have mb : ∀ x, mulOk x w.2 = true := fun x => mk2 K.g0.smw.sm x
  have ed : w.1 * w.1 + w.2 * w.2 = dt w w := rfl
  have ew : eqB (.str (wordS cc)) (.str "on") = some (decide (cc = 0)) := by
    rw [eqB_s]
    congr 1
    rw [Bool.eq_iff_iff]
    simp [word_on]
  have ebb : ∀ p : Bool, eqB (.bl p) (.bl p) = some true := fun p => by simp
  generalize lowT (cc * cc) (dt w w).toNat = LW at *
  generalize wordS cc = WS at *
  simp -implicitDefEqProofs [b_law_v20_t17, b_law_v20_t18, b_law_v20_t19, b_law_v20_t20, encD_0, encD_1, szl, eD, es, e1, v3, vV_0, vV_1, mc, ma, mb, ed, e55, ok, ew, ebb, -eqB_s]
  exact k _ _ _ _ _ _ _ _ _ _ _ _ _ _ _ _ _ _ _ _ _
end L24
namespace L24
open PySem PySem.Spec PyProof.Rows L2 VL PF PH WY
variable {F : Nat → List PV → R PV}
theorem e16n (h147 : Told (F 147)) (h163 : S_cross (F 163)) (h55 : S_llow (F 55)) {ns : List Int} {a b c w v l s : Dr} (K : Kn a b c w v l s) (x3 x6 x9 x10 x12 x13 x14 x15 x16 x17 x18 x19 x20 x21 x22 x23 x24 x25 x26 : Sl) :
    b_law_v20_t16 F [.fz (.src (ns.map .int)), .fz (encD a), .fz (encD b), x3, .fz (encD w), .fz (encD v), x6, .fz (encD s), .fz (S8 a b c w v l), x9, x10, .fz .non, x12, x13, x14, x15, x16, x17, x18, x19, x20, x21, x22, x23, x24, x25, x26] = .ret (.bl true) := by
  have k := e17 h147 h163 h55 K (ns := ns)
  simp -implicitDefEqProofs [b_law_v20_t16]
  exact k _ _ _ _ _ _ _ _ _ _ _ _ _ _ _ _ _ _ _ _
theorem e16s (h147 : Told (F 147)) (h163 : S_cross (F 163)) (h55 : S_llow (F 55)) (h112 : S_lside (F 112)) {ns : List Int} {a b c w v l s : Dr} (K : Kn a b c w v l s) {p q r : Q2} (hc : cors (a, w) (b, v) (c, l) = some (p, q, r)) (x3 x6 x9 x12 x13 x14 x15 x16 x17 x18 x19 x20 x21 x22 x23 x24 x25 x26 : Sl) :
    b_law_v20_t16 F [.fz (.src (ns.map .int)), .fz (encD a), .fz (encD b), x3, .fz (encD w), .fz (encD v), x6, .fz (encD s), .fz (S8 a b c w v l), x9, .fz (enc3 (p, q, r)), .fz (hatV (some (p, q, r))), x12, x13, x14, x15, x16, x17, x18, x19, x20, x21, x22, x23, x24, x25, x26] = .ret (.bl true) := by
  have k := e17 h147 h163 h55 K (ns := ns)
  obtain ⟨⟨op, oq, or_⟩, _⟩ := cors_ok K.g0 K.g1 K.g2 hc
  have sz := szQ_pos op oq or_
  have pS := Int.mul_pos sz.1 sz.1
  obtain ⟨n, d, l1, l2, l3, l4, l5⟩ := low_abs1 (t := crQ p q r) (b := (szQ p q r * szQ p q r).toNat) (by omega)
  unfold hatV
  simp only
  rw [l2]
  have i1 : isntP (.tup [.tup [.int (ab n), .int d], enc3 (p, q, r)]) .non = some (.bl true) := rfl
  have j0 : ∀ x y, ixP (.tup [x, y]) (.int 0) = some x := fun _ _ => rfl
  by_cases hz : 0 < ab n
  · have nz : crQ p q r ≠ 0 := fun z => by
      have := l3.mpr z
      rw [this] at hz
      exact absurd hz (by decide)
    have v2 := h147.v2 (a, w) (b, v) (c, l) s p q r K.g0 K.g1 K.g2 hc K.ps K.ns nz
    rw [inside_eq K.g0 K.g1 K.g2 hc nz] at v2
    simp only at v2
    have os := ptQ_ok K.ns
    have f0 := h112 (a, w) (ptQ s) K.g0 os
    have f1 := h112 (b, v) (ptQ s) K.g1 os
    have f2 := h112 (c, l) (ptQ s) K.g2 os
    have f3 := h112 (a, w) r K.g0 or_
    have f4 := h112 (b, v) q K.g1 oq
    have f5 := h112 (c, l) p K.g2 op
    have b0 := sd_small (s := (a, w)) K.g0 os
    have b1 := sd_small (s := (b, v)) K.g1 os
    have b2 := sd_small (s := (c, l)) K.g2 os
    simp only at f0 f1 f2 f3 f4 f5 b0 b1 b2
    generalize sdQ a w (ptQ s) = y0 at *
    generalize sdQ b v (ptQ s) = y1 at *
    generalize sdQ c l (ptQ s) = y2 at *
    generalize sdQ a w r = z0 at *
    generalize sdQ b v q = z1 at *
    generalize sdQ c l p = z2 at *
    have m0 : mulOk y0 z0 = true := small_l (by omega)
    have m1 : mulOk y1 z1 = true := small_l (by omega)
    have m2 : mulOk y2 z2 = true := small_l (by omega)
    have r3 : rg1 3 = .ok [.int 0, .int 1, .int 2] := rg1_nat (n := 3) (by decide)
    have es : PV.tup [.tup [.int s.1, .int 1], .tup [.int s.2, .int 1]] = encQ (ptQ s) := rfl
    have i8 : ixP (S8 a b c w v l) (.int 0) = some (encS (a, w)) := rfl
    have i8' : ixP (S8 a b c w v l) (.int 1) = some (encS (b, v)) := rfl
    have i8s : ixP (S8 a b c w v l) (.int 2) = some (encS (c, l)) := rfl
    have c0 : ixP (enc3 (p, q, r)) (.int 0) = some (encQ p) := rfl
    have c1 : ixP (enc3 (p, q, r)) (.int 1) = some (encQ q) := rfl
    have c2 : ixP (enc3 (p, q, r)) (.int 2) = some (encQ r) := rfl
    have e8 : PV.lst [encS (a, w), encS (b, v), encS (c, l)] = S8 a b c w v l := rfl
    have lp : listP [S8 a b c w v l] = some (S8 a b c w v l) := rfl
    rw [e8] at v2
    have n0 : decide (0 ≤ y0 * z0 ∧ 0 ≤ y1 * z1 ∧ 0 ≤ y2 * z2) = (decide (0 ≤ y0 * z0) && (decide (0 ≤ y1 * z1) && decide (0 ≤ y2 * z2))) := by
      rw [Bool.eq_iff_iff]; simp
    rw [n0] at v2
    by_cases k0 : 0 ≤ y0 * z0
    · by_cases k1 : 0 ≤ y1 * z1
      · by_cases k2 : 0 ≤ y2 * z2
        · rw [decide_eq_true k0, decide_eq_true k1, decide_eq_true k2] at v2
          simp -implicitDefEqProofs [b_law_v20_t16, i1, j0, hz, encD_0, encD_1, szl, r3, forL_S, b_law_v20_3, es, i8, i8', i8s, c0, c1, c2, f0, f1, f2, f3, f4, f5, m0, m1, m2, k0, k1, k2, lp, v2, vV_S, vV_1, ok_b]
          exact k _ _ _ _ _ _ _ _ _ _ _ _ _ _ _ _ _ _ _ _
        · rw [decide_eq_true k0, decide_eq_true k1, decide_eq_false k2] at v2
          simp -implicitDefEqProofs [b_law_v20_t16, i1, j0, hz, encD_0, encD_1, szl, r3, forL_S, b_law_v20_3, es, i8, i8', i8s, c0, c1, c2, f0, f1, f2, f3, f4, f5, m0, m1, m2, k0, k1, k2, lp, v2, vV_S, vV_1, ok_b]
          exact k _ _ _ _ _ _ _ _ _ _ _ _ _ _ _ _ _ _ _ _
      · rw [decide_eq_true k0, decide_eq_false k1] at v2
        simp -implicitDefEqProofs [b_law_v20_t16, i1, j0, hz, encD_0, encD_1, szl, r3, forL_S, b_law_v20_3, es, i8, i8', i8s, c0, c1, c2, f0, f1, f2, f3, f4, f5, m0, m1, m2, k0, k1, lp, v2, vV_S, vV_1, ok_b]
        exact k _ _ _ _ _ _ _ _ _ _ _ _ _ _ _ _ _ _ _ _
    · rw [decide_eq_false k0] at v2
      simp -implicitDefEqProofs [b_law_v20_t16, i1, j0, hz, encD_0, encD_1, szl, r3, forL_S, b_law_v20_3, es, i8, i8', i8s, c0, c1, c2, f0, f1, f2, f3, f4, f5, m0, m1, m2, k0, lp, v2, vV_S, vV_1, ok_b]
      exact k _ _ _ _ _ _ _ _ _ _ _ _ _ _ _ _ _ _ _ _
  · simp -implicitDefEqProofs [b_law_v20_t16, i1, j0, hz]
    exact k _ _ _ _ _ _ _ _ _ _ _ _ _ _ _ _ _ _ _ _
/-- from the sights on -/
theorem e9 (h147 : Told (F 147)) (h163 : S_cross (F 163)) (h55 : S_llow (F 55)) (h112 : S_lside (F 112)) (h63 : S_crossing (F 63)) {ns : List Int} {a b c w v l s : Dr} (K : Kn a b c w v l s) (x8 x9 x10 x11 x12 x13 x14 x15 x16 x17 x18 x19 x20 x21 x22 x23 x24 x25 x26 : Sl) :
    b_law_v20_t9 F [.fz (.src (ns.map .int)), .fz (encD a), .fz (encD b), .fz (encD c), .fz (encD w), .fz (encD v), .fz (encD l), .fz (encD s), x8, x9, x10, x11, x12, x13, x14, x15, x16, x17, x18, x19, x20, x21, x22, x23, x24, x25, x26] = .ret (.bl true) := by
  have e1 := h63 a w b v K.g0 K.g1
  have e2 := h63 a w c l K.g0 K.g2
  have e3 := h63 b v c l K.g1 K.g2
  have t1 := h147.v1 (a, w) (b, v) (c, l) K.g0 K.g1 K.g2
  have okh := ok_of (tm_hat (cors (a, w) (b, v) (c, l)))
  have e8 : PV.lst [.tup [encD a, encD w], .tup [encD b, encD v], .tup [encD c, encD l]] = S8 a b c w v l := rfl
  have e8' : PV.lst [encS (a, w), encS (b, v), encS (c, l)] = S8 a b c w v l := rfl
  have lp : listP [S8 a b c w v l] = some (S8 a b c w v l) := rfl
  have i8 : ixP (S8 a b c w v l) (.int 0) = some (encS (a, w)) := rfl
  have i8' : ixP (S8 a b c w v l) (.int 1) = some (encS (b, v)) := rfl
  have i8s : ixP (S8 a b c w v l) (.int 2) = some (encS (c, l)) := rfl
  have j0 : ∀ x y, ixP (.tup [x, y]) (.int 0) = some x := fun _ _ => rfl
  have j1 : ∀ x y, ixP (.tup [x, y]) (.int 1) = some y := fun _ _ => rfl
  rw [e8'] at t1
  have comp : ∀ (a0 a1 a2 a3 a4 a5 a6 a7 a9 a10 a11 a12 a13 a14 a15 a16 a17 a18 a19 a20 a21 a22 a23 a24 a25 : Option PV), lcL (tN 26) cYes (b_law_v20_0 F) [a0, a1, a2, a3, a4, a5, a6, a7, some (S8 a b c w v l), a9, a10, a11, a12, a13, a14, a15, a16, a17, a18, a19, a20, a21, a22, a23, a24, a25, none] [.tup [.int 0, .int 1], .tup [.int 0, .int 2], .tup [.int 1, .int 2]] = .ok [optQ (meetQ a w b v), optQ (meetQ a w c l), optQ (meetQ b v c l)] := by
    intro a0 a1 a2 a3 a4 a5 a6 a7 a9 a10 a11 a12 a13 a14 a15 a16 a17 a18 a19 a20 a21 a22 a23 a24 a25
    have one : ∀ (i j : Int) (P Q : Si) (z : Option Q2), ixP (S8 a b c w v l) (.int i) = some (encS P) → ixP (S8 a b c w v l) (.int j) = some (encS Q) → F 63 [encD P.1, encD P.2, encD Q.1, encD Q.2] = .ok (optQ z) → b_law_v20_0 F [a0, a1, a2, a3, a4, a5, a6, a7, some (S8 a b c w v l), a9, a10, a11, a12, a13, a14, a15, a16, a17, a18, a19, a20, a21, a22, a23, a24, a25, some (.tup [.int i, .int j])] = .ok (optQ z) := by
      intro i j P Q z h1 h2 h3
      simp -implicitDefEqProofs [b_law_v20_0, h1, h2, h3, j0, j1, encS_0, encS_1]
    exact lcL_map (t := tN 26) (e := b_law_v20_0 F) (ρ := [a0, a1, a2, a3, a4, a5, a6, a7, some (S8 a b c w v l), a9, a10, a11, a12, a13, a14, a15, a16, a17, a18, a19, a20, a21, a22, a23, a24, a25, none]) (fun (ij : Int × Int) => .tup [.int ij.1, .int ij.2]) (fun (ij : Int × Int) => if ij = (0, 1) then optQ (meetQ a w b v) else if ij = (0, 2) then optQ (meetQ a w c l) else optQ (meetQ b v c l)) [(0, 1), (0, 2), (1, 2)] fun ij hij => ⟨_, rfl, by
      simp only [List.mem_cons, List.not_mem_nil, or_false] at hij
      rcases hij with rfl | rfl | rfl
      · exact one 0 1 (a, w) (b, v) _ i8 i8' e1
      · exact one 0 2 (a, w) (c, l) _ i8 i8s e2
      · exact one 1 2 (b, v) (c, l) _ i8' i8s e3⟩
  have inn := inB_optQ (meetQ a w b v) (meetQ a w c l) (meetQ b v c l)
  cases hc : cors (a, w) (b, v) (c, l) with
  | none =>
    have k := e16n h147 h163 h55 K (ns := ns)
    have hn : ((meetQ a w b v).isNone || ((meetQ a w c l).isNone || (meetQ b v c l).isNone)) = true := by
      unfold cors at hc
      simp only at hc
      cases h1 : meetQ a w b v <;> cases h2 : meetQ a w c l <;> cases h3 : meetQ b v c l <;> simp_all
    rw [hn] at inn
    rw [hc] at t1 okh
    unfold hatV at t1 okh
    simp only at t1 okh
    simp -implicitDefEqProofs [b_law_v20_t9, b_law_v20_t10, b_law_v20_t11, b_law_v20_t12, b_law_v20_t13, b_law_v20_t14, b_law_v20_t15, szl, e8, comp, inn, lp, t1, vV_S, okh]
    exact k _ _ _ _ _ _ _ _ _ _ _ _ _ _ _ _ _ _ _
  | some z =>
    obtain ⟨p, q, r⟩ := z
    have k := e16s h147 h163 h55 h112 K hc (ns := ns)
    obtain ⟨⟨op, oq, or_⟩, m1, m2, m3⟩ := cors_ok K.g0 K.g1 K.g2 hc
    simp only at m1 m2 m3
    rw [m1, m2, m3] at comp inn
    rw [hc] at t1 okh
    have sz := szQ_pos op oq or_
    have pS := Int.mul_pos sz.1 sz.1
    have tp := tq_bd op sz.1 sz.2
    have tq' := tq_bd oq sz.1 sz.2
    have tr := tq_bd or_ sz.1 sz.2
    have mS : szQ p q r * szQ p q r ≤ 1000000000000000000000000 * 1000000000000000000000000 := Int.mul_le_mul sz.2 sz.2 (Int.le_of_lt sz.1) (by omega)
    have e55 := h55 (ab (crQ p q r)) (szQ p q r * szQ p q r) (by omega) (by omega)
    have el : llowV (ab (crQ p q r)) (szQ p q r * szQ p q r) = lowT (ab (crQ p q r)) (szQ p q r * szQ p q r).toNat := by rw [← low_nn, Int.toNat_of_nonneg (by omega)]
    rw [el] at e55
    have m2' : mulOk (szQ p q r) (szQ p q r) = true := mulOk_b (big40 (by omega)) (big40 (by omega))
    have mu : ∀ (z : Q2) (x : Int), z.Ok → mulOk x z.u = true := fun z x hz => small_r (by have := hz.u0; have := hz.u1; omega)
    have mv : ∀ (z : Q2) (x : Int), z.Ok → mulOk x z.v = true := fun z x hz => small_r (by have := hz.v0; have := hz.v1; omega)
    have mx : ∀ (z : Q2) (x : Int), z.Ok → mulOk z.x x = true := fun z x hz => small_l (by have := hz.x0; have := hz.x1; omega)
    have my : ∀ (z : Q2) (x : Int), z.Ok → mulOk z.y x = true := fun z x hz => small_l (by have := hz.y0; have := hz.y1; omega)
    have bu : ∀ z : Q2, z.Ok → z.u < bigI := fun z hz => big_lt (by have := hz.u0; have := hz.u1; omega)
    have bv : ∀ z : Q2, z.Ok → z.v < bigI := fun z hz => big_lt (by have := hz.v0; have := hz.v1; omega)
    have eS : p.u * p.v * q.u * q.v * r.u * r.v = szQ p q r := by unfold szQ; grind
    have g1 := sub_bg tq' tp
    have g2 := sub_bg tr tp
    have a1 : mulOk ((tq (szQ p q r) q).1 - (tq (szQ p q r) p).1) ((tq (szQ p q r) r).2 - (tq (szQ p q r) p).2) = true := mulOk_b g1.1 g2.2
    have a2 : mulOk ((tq (szQ p q r) q).2 - (tq (szQ p q r) p).2) ((tq (szQ p q r) r).1 - (tq (szQ p q r) p).1) = true := mulOk_b g1.2 g2.1
    have eT : ∀ z : Q2, PV.tup [.int (z.x * (szQ p q r / z.u)), .int (z.y * (szQ p q r / z.v))] = encD (tq (szQ p q r) z) := fun _ => rfl
    have eA : ((tq (szQ p q r) q).1 - (tq (szQ p q r) p).1) * ((tq (szQ p q r) r).2 - (tq (szQ p q r) p).2) - ((tq (szQ p q r) q).2 - (tq (szQ p q r) p).2) * ((tq (szQ p q r) r).1 - (tq (szQ p q r) p).1) = crQ p q r := rfl
    have i3 : inB .non (.lst [encQ p, encQ q, encQ r]) = some false := inn
    have en : PV.lst [encQ p, encQ q, encQ r] = enc3 (p, q, r) := rfl
    have eo : ∀ z : Q2, optQ (some z) = encQ z := fun _ => rfl
    have eH : PV.tup [lowT (ab (crQ p q r)) (szQ p q r * szQ p q r).toNat, enc3 (p, q, r)] = hatV (some (p, q, r)) := rfl
    have it : itemsP (enc3 (p, q, r)) = .ok [encQ p, encQ q, encQ r] := rfl
    rw [en] at i3
    simp only [eo] at comp
    simp -implicitDefEqProofs [b_law_v20_t9, b_law_v20_t10, b_law_v20_t11, b_law_v20_t12, b_law_v20_t13, b_law_v20_t14, b_law_v20_t15, szl, e8, comp, en, i3, it, forL_S, b_law_v20_1, b_law_v20_2, encQ_0, encQ_1, mu p _ op, mu q _ oq, mu r _ or_, mv p _ op, mv q _ oq, mv r _ or_, eS, mx p _ op, mx q _ oq, mx r _ or_, my p _ op, my q _ oq, my r _ or_, bu p op, bu q oq, bu r or_, bv p op, bv q oq, bv r or_, op.u0, oq.u0, or_.u0, op.v0, oq.v0, or_.v0, eT, nol_D, encD_0, encD_1, a1, a2, eA, absP_ab, -absP_i, m2', e55, eH, lp, t1, vV_S, okh]
    exact k _ _ _ _ _ _ _ _ _ _ _ _ _ _ _ _ _ _
end L24
namespace L24
open PySem PySem.Spec PyProof.Rows L2 VL PF PH WY
variable {F : Nat → List PV → R PV}
theorem law_eval (h13 : S_cell (F 13)) (h105 : S_lship (F 105)) (h166 : S_lway (F 166)) (h147 : Told (F 147)) (h163 : S_cross (F 163)) (h55 : S_llow (F 55)) (h112 : S_lside (F 112)) (h63 : S_crossing (F 63)) (h34 : S_lfix (F 34)) (ns : List Int) :
    outR (b_law_v20 F (startE 27 [.src (ns.map .int)])) = .ok (.bl true) := by
  have c0 := h13 ns 0
  have c1 := h13 ns 1
  have c2 := h13 ns 2
  have c3 := h13 ns 3
  have c4 := h13 ns 4
  have c5 := h13 ns 5
  simp only [Int.natCast_zero, Int.natCast_one, Int.cast_ofNat_Int] at c0 c1 c2 c3 c4 c5
  obtain ⟨a, ea, ba⟩ := h105 (ab (cell ns 0)) 20 (by decide)
  obtain ⟨b, eb, bb⟩ := h105 (ab (cell ns 1)) 20 (by decide)
  obtain ⟨c, ec, bc⟩ := h105 (ab (cell ns 2)) 20 (by decide)
  obtain ⟨w0, ew, nw, bw⟩ := h166 (ab (cell ns 3)) 6 (by decide)
  obtain ⟨v0, ev, nv, bv⟩ := h166 (ab (cell ns 4)) 6 (by decide)
  obtain ⟨l, el, nl, bl⟩ := h166 (ab (cell ns 5)) 6 (by decide)
  obtain ⟨s, es, bs⟩ := h105 (ab (cell ns 5) + 7) 30 (by decide)
  simp only [Int.cast_ofNat_Int] at ea eb ec ew ev el es ba bb bc bw bv bl bs
  have g2 : Sg c l := ⟨by omega, by omega, by omega, by omega, nl⟩
  have ps : plB s = true := by
    unfold plB inPl
    simp only [Bool.and_eq_true, decide_eq_true_eq]
    omega
  have ns' : Nr s := ⟨by omega, by omega⟩
  have inn := inB_D s [a, b]
  simp only [List.map_cons, List.map_nil] at inn
  have fin : ∀ w v : Dr, Sg a w → Sg b v → b_law_v20_t8 F [.fz (.src (ns.map .int)), .fz (encD a), .fz (encD b), .fz (encD c), .fz (encD w), .fz (encD v), .fz (encD l), .fz (encD s), .no, .no, .no, .no, .no, .no, .no, .no, .no, .no, .no, .no, .no, .no, .no, .no, .no, .no, .no] = .ret (.bl true) := by
    intro w v g0 g1
    have k := e9 h147 h163 h55 h112 h63 (ns := ns) (K := ⟨g0, g1, g2, ps, ns'⟩)
    have k0 := h147.v0 a w b v g0 g1
    have k1 := h34 a w b v g0 g1
    have ok := ok_of (tm_fix a w b v)
    simp -implicitDefEqProofs [b_law_v20_t8, k0, k1, szl, vV_S, ok]
    exact k _ _ _ _ _ _ _ _ _ _ _ _ _ _ _ _ _ _ _
  have k0 := fin w0 v0 ⟨by omega, by omega, by omega, by omega, nw⟩ ⟨by omega, by omega, by omega, by omega, nv⟩
  by_cases h : cell ns 2 % 2 = 1
  · by_cases hm : s ∈ [a, b]
    · rw [decide_eq_true hm] at inn
      simp -implicitDefEqProofs [b_law_v20, b_law_v20_t1, b_law_v20_t2, b_law_v20_t3, b_law_v20_t4, b_law_v20_t5, b_law_v20_t6, b_law_v20_t7, c0, c1, c2, c3, c4, c5, absP_ab, -absP_i, ea, eb, ec, ew, ev, el, es, h, szl, inn, k0]
    · rw [decide_eq_false hm] at inn
      have hm2 : s ≠ a ∧ s ≠ b := by simpa using hm
      have nz : ∀ x : Dr, s ≠ x → (x.1 - s.1, x.2 - s.2) ≠ ((0, 0) : Dr) := fun x hx z => hx (by
        obtain ⟨x1, x2⟩ := x
        obtain ⟨s1, s2⟩ := s
        simp only [Prod.mk.injEq] at z ⊢
        omega)
      have k1 := fin (a.1 - s.1, a.2 - s.2) (b.1 - s.1, b.2 - s.2) ⟨by omega, by omega, by simp only; omega, by simp only; omega, nz a hm2.1⟩ ⟨by omega, by omega, by simp only; omega, by simp only; omega, nz b hm2.2⟩
      simp -implicitDefEqProofs [b_law_v20, b_law_v20_t1, b_law_v20_t2, b_law_v20_t3, b_law_v20_t4, b_law_v20_t5, b_law_v20_t6, b_law_v20_t7, c0, c1, c2, c3, c4, c5, absP_ab, -absP_i, ea, eb, ec, ew, ev, el, es, h, szl, inn, encD_0, encD_1, eD, k1]
  · simp -implicitDefEqProofs [b_law_v20, b_law_v20_t1, b_law_v20_t2, b_law_v20_t3, b_law_v20_t4, b_law_v20_t5, b_law_v20_t6, b_law_v20_t7, c0, c1, c2, c3, c4, c5, absP_ab, -absP_i, ea, eb, ec, ew, ev, el, es, h, szl, k0]
variable (d : Nat)
theorem t13 : S_cell (FT (d + 1) 13) := sp_cell (FT d)
theorem t22 : S_draw (FT (d + 1) 22) := sp_draw (FT d)
theorem t105 : S_lship (FT (d + 2) 105) := sp_lship (F := FT (d + 1)) (t22 d)
theorem t166 : S_lway (FT (d + 2) 166) := sp_lway (F := FT (d + 1)) (t22 d)
theorem t163 : S_cross (FT (d + 1) 163) := sp_cross_l (FT d)
theorem t285 : S_cross (FT (d + 1) 285) := sp_cross (FT d)
theorem t285b : S_crossB (FT (d + 1) 285) := sp_crossB (FT d)
theorem t296 : S_dot (FT (d + 1) 296) := sp_dot (FT d)
theorem t330 : S_gcd (FT (d + 1) 330) := sp_gcd (FT d)
theorem t453 : S_lowest (FT (d + 2) 453) := sp_lowest (F := FT (d + 1)) (t330 d)
theorem t55 : S_llow (FT (d + 1) 55) := sp_llow (FT d)
theorem t242 : S_place_ck (FT (d + 1) 242) := sp_place_ck (FT d)
theorem t646 : S_way_between (FT (d + 1) 646) := sp_way_between (FT d)
theorem t659 : S_word_of (FT (d + 1) 659) := sp_word_of (FT d)
theorem t480 : S_off_by (FT (d + 3) 480) := sp_off_by (F := FT (d + 2)) (t646 (d + 1)) (t285 (d + 1)) (t659 (d + 1)) (t453 d) (t296 (d + 1))
theorem t382 : S_is_way (FT (d + 1) 382) := sp_is_way (FT d)
theorem t261 : S_ways (FT (d + 2) 261) := sp_ways (F := FT (d + 1)) (t382 d)
theorem t287 : S_crossing (FT (d + 3) 287) := sp_crossing (F := FT (d + 2)) (t285 (d + 1)) (t646 (d + 1)) (t453 d)
theorem t379 : S_seen_so (FT (d + 1) 379) := sp_seen_so (FT d)
theorem t319 : FixBy (FT (d + 4) 319) := sp_fix (F := FT (d + 3)) (t261 (d + 1)) (t242 (d + 2)) (t287 d) (t379 (d + 2))
theorem t252 : CheckSights (FT (d + 3) 252) := sp_check_sights (F := FT (d + 2)) (t261 d) (t242 (d + 1))
theorem t279 : S_corners (FT (d + 4) 279) := sp_corners (F := FT (d + 3)) (t287 d)
theorem t638 : S_twice (FT (d + 3) 638) := sp_twice (F := FT (d + 2)) (t285b (d + 1)) (t646 (d + 1)) (t453 d)
theorem t338 : HatOf (FT (d + 5) 338) := sp_hat (F := FT (d + 4)) (t252 (d + 1)) (t279 d) (t638 (d + 1))
theorem t345 : S_inside (FT (d + 5) 345) := sp_inside (F := FT (d + 4)) (t252 (d + 1)) (t242 (d + 3)) (t279 d) (t638 (d + 1))
theorem t579 : S_sight_error (FT (d + 4) 579) := sp_sight_error (F := FT (d + 3)) (t261 (d + 1)) (t242 (d + 2)) (t480 d)
theorem t147 : Told (FT (d + 6) 147) := sp_told (F := FT (d + 5)) (t319 (d + 1)) (t338 d) (t345 d) (t579 (d + 1))
theorem t63 : S_crossing (FT (d + 2) 63) := sp_lmeet (F := FT (d + 1)) (t163 d) (t55 d)
theorem t34 : S_lfix (FT (d + 3) 34) := sp_lfix (F := FT (d + 2)) (t63 d)
theorem t112 : S_lside (FT (d + 1) 112) := sp_lside_of (FT d)
theorem law_pure (ns : List Int) (h1 : ns.length ≤ 63) (h2 : ∀ z ∈ ns, Builtin.Int.intBits z ≤ 1048576) : FT (23 + 1) 418 [.src (ns.map .int)] = .ok (.bl true) :=
  law_eval (F := FT 23) (t13 22) (t105 21) (t166 21) (t147 17) (t163 22) (t55 22) (t112 22) (t63 21) (t34 20) ns
end L24
open PySem PySem.W PyProof.Rows in
set_option maxRecDepth 100000 in
set_option maxHeartbeats 0 in
theorem PySem.Challenge.cw_lightbook_k24_fixes_holds : PySem.Challenge.rw_lightbook_k24_fixes.Holds := by
  w_on; o_law; k_head; (case hw => w_witness2)
  k_fill
  refine L2.walk_ofB (l := PySem.Challenge.rw_lightbook_k24_fixes) (n := 63) (k := 26) (x := "script") (CX := fun w => L2.CX PySem.Challenge.rw_lightbook_k24_fixes.prog w) (sp := fun w => VL.spLaw _) rfl (by decide) rfl ⟨rfl, by decide, by decide⟩ (fun w h Y => PySem.W.kIn_of Y) ?F (fun _ _ a ns hl hb _ hS => ⟨a, ns, rfl, hS, hl, hb, fun _ => rfl⟩) VL.cx_no
  case F =>
    intro w mg fa h KX G hmg
    refine' L24.all_mk KX G hmg ?a_OutOfRange ?T_OutOfRange ?n_OutOfRange_label ?n_OutOfRange_value ?a_BadWay ?T_BadWay ?n_BadWay_label ?n_BadWay_number ?a_Unequal ?T_Unequal ?n_Unequal_label ?n_Unequal_value ?a_LightError ?e_BadWay ?i_BadWay ?t_BadWay ?s_OutOfRange_BadWay ?s_BadWay_BadWay ?s_Unequal_BadWay ?e_LightError ?i_LightError ?t_LightError ?s_OutOfRange_LightError ?s_BadWay_LightError ?s_Unequal_LightError ?e_OutOfRange ?i_OutOfRange ?t_OutOfRange ?s_OutOfRange_OutOfRange ?s_BadWay_OutOfRange ?s_Unequal_OutOfRange ?e_Unequal ?i_Unequal ?t_Unequal ?s_OutOfRange_Unequal ?s_BadWay_Unequal ?s_Unequal_Unequal ?ga_BadWay ?gg_BadWay ?ge_BadWay ?gh_BadWay ?ga_OutOfRange ?gg_OutOfRange ?ge_OutOfRange ?gh_OutOfRange ?ga_Unequal ?gg_Unequal ?ge_Unequal ?gh_Unequal ?z_abs ?z_bool ?z_int ?z_isinstance ?z_len ?z_list ?z_max ?z_min ?z_range ?z_super ?z_tuple ?c_MOST_PLACEv ?c_SIGHTSv ?g_gcd_of ?g_lowest ?g_is_way ?g_check_ways ?g_check_place ?g_cross ?g_dot ?g_way_between ?g_word_of ?g_off_by ?g_crossing_of ?g_is_seen_so ?g_fix_by ?g_check_sights ?g_corners_of ?g_twice_area ?g_hat_of ?g_inside_hat ?g_sight_error ?g__law_cell ?g__law_draw ?g__law_way ?g__law_turn_of ?g__law_ship ?g__law_lowest ?g__law_told ?g__law_meet ?g__law_fix ?g__law_side_of ?g_law L24.law_pure
    (case a_OutOfRange => k_is)
    (case T_OutOfRange => (refine' VL.exc_facts ?q2_lC ?q2_hbm ?q2_sa ?q2_exC ?q2_tyC ?q2_kC ?q2_ini ?q2_tyI ?q2_lI ?q2_code ?q2_lF ?q2_h2 ?q2_hfile ?q2_lc ?q2_sup ?q2_self ?q2_ve ?q2_noS ?q2_third; (case q2_lC => k_is); (case q2_sa => k_is); (case q2_exC => k_is); (case q2_tyC => k_is); (case q2_kC => k_is); (case q2_ini => k_is); (case q2_tyI => k_is); (case q2_lI => k_is); (case q2_code => k_is); (case q2_lF => k_is); (case q2_h2 => rfl); (case q2_hfile => rfl); (case q2_hbm => rfl); (case q2_lc => k_is); (case q2_sup => (refine' VL.sup_of ?q2_lC2 ?q2_lL ?q2_e ?q2_f; (case q2_lC2 => k_is); (case q2_e => rfl); (case q2_lL => k_is); (case q2_f => k_is))); (case q2_self => k_is); (case q2_ve => k_is); (case q2_noS => k_is); (case q2_third => k_is)))
    (case n_OutOfRange_label => k_is)
    (case n_OutOfRange_value => k_is)
    (case a_BadWay => k_is)
    (case T_BadWay => (refine' VL.exc_facts ?q6_lC ?q6_hbm ?q6_sa ?q6_exC ?q6_tyC ?q6_kC ?q6_ini ?q6_tyI ?q6_lI ?q6_code ?q6_lF ?q6_h2 ?q6_hfile ?q6_lc ?q6_sup ?q6_self ?q6_ve ?q6_noS ?q6_third; (case q6_lC => k_is); (case q6_sa => k_is); (case q6_exC => k_is); (case q6_tyC => k_is); (case q6_kC => k_is); (case q6_ini => k_is); (case q6_tyI => k_is); (case q6_lI => k_is); (case q6_code => k_is); (case q6_lF => k_is); (case q6_h2 => rfl); (case q6_hfile => rfl); (case q6_hbm => rfl); (case q6_lc => k_is); (case q6_sup => (refine' VL.sup_of ?q6_lC2 ?q6_lL ?q6_e ?q6_f; (case q6_lC2 => k_is); (case q6_e => rfl); (case q6_lL => k_is); (case q6_f => k_is))); (case q6_self => k_is); (case q6_ve => k_is); (case q6_noS => k_is); (case q6_third => k_is)))
    (case n_BadWay_label => k_is)
    (case n_BadWay_number => k_is)
    (case a_Unequal => k_is)
    (case T_Unequal => (refine' VL.exc_facts ?q10_lC ?q10_hbm ?q10_sa ?q10_exC ?q10_tyC ?q10_kC ?q10_ini ?q10_tyI ?q10_lI ?q10_code ?q10_lF ?q10_h2 ?q10_hfile ?q10_lc ?q10_sup ?q10_self ?q10_ve ?q10_noS ?q10_third; (case q10_lC => k_is); (case q10_sa => k_is); (case q10_exC => k_is); (case q10_tyC => k_is); (case q10_kC => k_is); (case q10_ini => k_is); (case q10_tyI => k_is); (case q10_lI => k_is); (case q10_code => k_is); (case q10_lF => k_is); (case q10_h2 => rfl); (case q10_hfile => rfl); (case q10_hbm => rfl); (case q10_lc => k_is); (case q10_sup => (refine' VL.sup_of ?q10_lC2 ?q10_lL ?q10_e ?q10_f; (case q10_lC2 => k_is); (case q10_e => rfl); (case q10_lL => k_is); (case q10_f => k_is))); (case q10_self => k_is); (case q10_ve => k_is); (case q10_noS => k_is); (case q10_third => k_is)))
    (case n_Unequal_label => k_is)
    (case n_Unequal_value => k_is)
    (case a_LightError => k_is)
    (case e_BadWay => k_is)
    (case i_BadWay => k_is)
    (case t_BadWay => k_is)
    (case s_OutOfRange_BadWay => first | k_is | rfl)
    (case s_BadWay_BadWay => first | k_is | rfl)
    (case s_Unequal_BadWay => first | k_is | rfl)
    (case e_LightError => k_is)
    (case i_LightError => k_is)
    (case t_LightError => k_is)
    (case s_OutOfRange_LightError => first | k_is | rfl)
    (case s_BadWay_LightError => first | k_is | rfl)
    (case s_Unequal_LightError => first | k_is | rfl)
    (case e_OutOfRange => k_is)
    (case i_OutOfRange => k_is)
    (case t_OutOfRange => k_is)
    (case s_OutOfRange_OutOfRange => first | k_is | rfl)
    (case s_BadWay_OutOfRange => first | k_is | rfl)
    (case s_Unequal_OutOfRange => first | k_is | rfl)
    (case e_Unequal => k_is)
    (case i_Unequal => k_is)
    (case t_Unequal => k_is)
    (case s_OutOfRange_Unequal => first | k_is | rfl)
    (case s_BadWay_Unequal => first | k_is | rfl)
    (case s_Unequal_Unequal => first | k_is | rfl)
    (case ga_BadWay => k_is)
    (case gg_BadWay => k_is)
    (case ge_BadWay => k_is)
    (case gh_BadWay => k_is)
    (case ga_OutOfRange => k_is)
    (case gg_OutOfRange => k_is)
    (case ge_OutOfRange => k_is)
    (case gh_OutOfRange => k_is)
    (case ga_Unequal => k_is)
    (case gg_Unequal => k_is)
    (case ge_Unequal => k_is)
    (case gh_Unequal => k_is)
    (case z_abs => (refine' VL.none_at KX G ?q50_a; k_is))
    (case z_bool => (refine' VL.none_at KX G ?q51_a; k_is))
    (case z_int => (refine' VL.none_at KX G ?q52_a; k_is))
    (case z_isinstance => (refine' VL.none_at KX G ?q53_a; k_is))
    (case z_len => (refine' VL.none_at KX G ?q54_a; k_is))
    (case z_list => (refine' VL.none_at KX G ?q55_a; k_is))
    (case z_max => (refine' VL.none_at KX G ?q56_a; k_is))
    (case z_min => (refine' VL.none_at KX G ?q57_a; k_is))
    (case z_range => (refine' VL.none_at KX G ?q58_a; k_is))
    (case z_super => (refine' VL.none_at KX G ?q59_a; k_is))
    (case z_tuple => (refine' VL.none_at KX G ?q60_a; k_is))
    (case c_MOST_PLACEv => (intro cl; refine' VL.val_at KX G ?q61_a ?q61_w; (case q61_a => k_is); (case q61_w => exact .int _ _)))
    (case c_SIGHTSv => (intro cl; refine' VL.val_at KX G ?q62_a ?q62_w; (case q62_a => k_is); (case q62_w => exact .int _ _)))
    (case g_gcd_of => (refine' VL.fun_at KX G ?q63_a ?q63_l ?q63_c ?q63_k; (case q63_a => k_is); (case q63_l => k_is); (case q63_c => k_is); (case q63_k => k_is)))
    (case g_lowest => (refine' VL.fun_at KX G ?q64_a ?q64_l ?q64_c ?q64_k; (case q64_a => k_is); (case q64_l => k_is); (case q64_c => k_is); (case q64_k => k_is)))
    (case g_is_way => (refine' VL.fun_at KX G ?q65_a ?q65_l ?q65_c ?q65_k; (case q65_a => k_is); (case q65_l => k_is); (case q65_c => k_is); (case q65_k => k_is)))
    (case g_check_ways => (refine' VL.fun_at KX G ?q66_a ?q66_l ?q66_c ?q66_k; (case q66_a => k_is); (case q66_l => k_is); (case q66_c => k_is); (case q66_k => k_is)))
    (case g_check_place => (refine' VL.fun_at KX G ?q67_a ?q67_l ?q67_c ?q67_k; (case q67_a => k_is); (case q67_l => k_is); (case q67_c => k_is); (case q67_k => k_is)))
    (case g_cross => (refine' VL.fun_at KX G ?q68_a ?q68_l ?q68_c ?q68_k; (case q68_a => k_is); (case q68_l => k_is); (case q68_c => k_is); (case q68_k => k_is)))
    (case g_dot => (refine' VL.fun_at KX G ?q69_a ?q69_l ?q69_c ?q69_k; (case q69_a => k_is); (case q69_l => k_is); (case q69_c => k_is); (case q69_k => k_is)))
    (case g_way_between => (refine' VL.fun_at KX G ?q70_a ?q70_l ?q70_c ?q70_k; (case q70_a => k_is); (case q70_l => k_is); (case q70_c => k_is); (case q70_k => k_is)))
    (case g_word_of => (refine' VL.fun_at KX G ?q71_a ?q71_l ?q71_c ?q71_k; (case q71_a => k_is); (case q71_l => k_is); (case q71_c => k_is); (case q71_k => k_is)))
    (case g_off_by => (refine' VL.fun_at KX G ?q72_a ?q72_l ?q72_c ?q72_k; (case q72_a => k_is); (case q72_l => k_is); (case q72_c => k_is); (case q72_k => k_is)))
    (case g_crossing_of => (refine' VL.fun_at KX G ?q73_a ?q73_l ?q73_c ?q73_k; (case q73_a => k_is); (case q73_l => k_is); (case q73_c => k_is); (case q73_k => k_is)))
    (case g_is_seen_so => (refine' VL.fun_at KX G ?q74_a ?q74_l ?q74_c ?q74_k; (case q74_a => k_is); (case q74_l => k_is); (case q74_c => k_is); (case q74_k => k_is)))
    (case g_fix_by => (refine' VL.fun_at KX G ?q75_a ?q75_l ?q75_c ?q75_k; (case q75_a => k_is); (case q75_l => k_is); (case q75_c => k_is); (case q75_k => k_is)))
    (case g_check_sights => (refine' VL.fun_at KX G ?q76_a ?q76_l ?q76_c ?q76_k; (case q76_a => k_is); (case q76_l => k_is); (case q76_c => k_is); (case q76_k => k_is)))
    (case g_corners_of => (refine' VL.fun_at KX G ?q77_a ?q77_l ?q77_c ?q77_k; (case q77_a => k_is); (case q77_l => k_is); (case q77_c => k_is); (case q77_k => k_is)))
    (case g_twice_area => (refine' VL.fun_at KX G ?q78_a ?q78_l ?q78_c ?q78_k; (case q78_a => k_is); (case q78_l => k_is); (case q78_c => k_is); (case q78_k => k_is)))
    (case g_hat_of => (refine' VL.fun_at KX G ?q79_a ?q79_l ?q79_c ?q79_k; (case q79_a => k_is); (case q79_l => k_is); (case q79_c => k_is); (case q79_k => k_is)))
    (case g_inside_hat => (refine' VL.fun_at KX G ?q80_a ?q80_l ?q80_c ?q80_k; (case q80_a => k_is); (case q80_l => k_is); (case q80_c => k_is); (case q80_k => k_is)))
    (case g_sight_error => (refine' VL.fun_at KX G ?q81_a ?q81_l ?q81_c ?q81_k; (case q81_a => k_is); (case q81_l => k_is); (case q81_c => k_is); (case q81_k => k_is)))
    (case g__law_cell => (refine' VL.fun_at KX G ?q82_a ?q82_l ?q82_c ?q82_k; (case q82_a => k_is); (case q82_l => k_is); (case q82_c => k_is); (case q82_k => k_is)))
    (case g__law_draw => (refine' VL.fun_at KX G ?q83_a ?q83_l ?q83_c ?q83_k; (case q83_a => k_is); (case q83_l => k_is); (case q83_c => k_is); (case q83_k => k_is)))
    (case g__law_way => (refine' VL.fun_at KX G ?q84_a ?q84_l ?q84_c ?q84_k; (case q84_a => k_is); (case q84_l => k_is); (case q84_c => k_is); (case q84_k => k_is)))
    (case g__law_turn_of => (refine' VL.fun_at KX G ?q85_a ?q85_l ?q85_c ?q85_k; (case q85_a => k_is); (case q85_l => k_is); (case q85_c => k_is); (case q85_k => k_is)))
    (case g__law_ship => (refine' VL.fun_at KX G ?q86_a ?q86_l ?q86_c ?q86_k; (case q86_a => k_is); (case q86_l => k_is); (case q86_c => k_is); (case q86_k => k_is)))
    (case g__law_lowest => (refine' VL.fun_at KX G ?q87_a ?q87_l ?q87_c ?q87_k; (case q87_a => k_is); (case q87_l => k_is); (case q87_c => k_is); (case q87_k => k_is)))
    (case g__law_told => (refine' VL.fun_at KX G ?q88_a ?q88_l ?q88_c ?q88_k; (case q88_a => k_is); (case q88_l => k_is); (case q88_c => k_is); (case q88_k => k_is)))
    (case g__law_meet => (refine' VL.fun_at KX G ?q89_a ?q89_l ?q89_c ?q89_k; (case q89_a => k_is); (case q89_l => k_is); (case q89_c => k_is); (case q89_k => k_is)))
    (case g__law_fix => (refine' VL.fun_at KX G ?q90_a ?q90_l ?q90_c ?q90_k; (case q90_a => k_is); (case q90_l => k_is); (case q90_c => k_is); (case q90_k => k_is)))
    (case g__law_side_of => (refine' VL.fun_at KX G ?q91_a ?q91_l ?q91_c ?q91_k; (case q91_a => k_is); (case q91_l => k_is); (case q91_c => k_is); (case q91_k => k_is)))
    (case g_law => (refine' VL.fun_at KX G ?q92_a ?q92_l ?q92_c ?q92_k; (case q92_a => k_is); (case q92_l => k_is); (case q92_c => k_is); (case q92_k => k_is)))
